/-
  A condition generator for functions on trees of data, part 4 of 5: values in memory, contracts, soundness.
-/
import Derived.Test.YtcodmgmliopheaaGreatVC
import Derived.IntWalk
import Derived.ProofKit
set_option linter.all false
open Go
open Act renaming put->YZ
open Bool renaming false_eq_true->WH,and_eq_true->AI,not_eq_true'->XE,rec->ZA,or_eq_false_iff->W2,or_eq_true->Wo
open Cell renaming okWide->X8,ok->YR
open Code renaming wp_mono->Xq
open DataW renaming trod->XH,TrodAll->XQ
open Int renaming toNat_natCast->V4
open IntWalk renaming i64_in->X0
open List renaming mem_cons->VN,any_cons->Xr,range->VW,flatMap_cons->WS,filter_filter->XW,filter_congr->Xm,mem_range->WN,range_add->Y7,range_succ->Ye,filter_append->Xu,filter_eq_nil_iff->Xn,mem_map->Wu,flatMap_append->Xs,append_nil->WU,any_eq_true->WV,getElem?_eq_getElem->IN,filter_eq_self->XP,length_append->By,length_cons->V9,length_nil->Wy,getD_eq_getElem?_getD->If,getElem?_append_left->Wa,getElem?_append_right->VY,getElem?_eq_none->Wb,getElem?_eq_some_iff->IT,eq_nil_of_length_eq_zero->WC,length_take->VK,length_drop->VR,mem_append->BY,getElem?_drop->VU,drop_drop->WF,take_append_drop->V2,foldl_cons->Y0,getElem?_range->XX,length_range->YQ,nil_append->V5,map_cons->Wz,replicate->Wi,getD->Wm,range'->XV
open List.cons renaming injEq->WI
open Nat renaming eq_of_beq_eq_true->V0,beq->WR,lt_or_ge->WM,add_zero->VL,le_refl->VJ,sub_self->Yq,zero_add->Wc,blt->Zn,blt_eq->Zx,ne_of_beq_eq_false->XJ,add_mul->VX,zero_le->No,succ_mul->Zo,mul_le_mul_right->Wj
open NatCast renaming natCast->ZJ
open Option renaming isSome_some->Yy,bind_some->W7,getD_some->Wk,map_eq_some_iff->VO,map_some->WA,bind_eq_some_iff->Xk
open Option.some renaming injEq->Wn
open Prod.mk renaming injEq->Yd
open Region renaming binds->Y8,ready->Y9
open Value renaming okWide->Xh
open World renaming cell?->X7
open _root_.Array renaming getElem?_toList->V6,getD_eq_getD_getElem?->Wp,getElem?_eq_getElem->WZ,getElem?_eq_some_iff->OF,replicate->Xj,getElem?_append_left->Yf
namespace Go.V
section
variable {P : Program} {T : wd} {n : Nat} {g : Gm}
theorem Hk (hT:bp P T){d:Option Tmp}{op:BinOp}{t:TypeId}{x y:Operand}{ls:List Loc}{out:Out}(h:(Hj T ah n d op t x y).Runs g ls out):(Hi P n d op t x y).Runs g ls out:=by
 unfold Hj at h;unfold Hi;refine cr ?_ h;intro a ls h;refine cr ?_ h;intro b ls h;cases a with
 | v a=>
   cases b with
   | v b=>
     cases a with
     | int k a=>
       cases b with
       | int k' b=>
         by_cases hk:k=k'
         ·subst hk;cases op<;>first|exact h|(simp only[FO,Dd,Ii,Dc,uX,FI,beq_self_eq_true,if_true,WH,if_false]at h ⊢;exact h)|(simp only[FO,Dd,Ii,Dc,uX,FI,beq_self_eq_true,if_true,WH,if_false]at h ⊢;exact⟨trivial,h⟩)|(simp[FO,Dd,Ii,Dc,Rd.Runs]at h)
         ·cases op<;>first|exact h|(simp[FO,hk,Rd.Runs]at h)
       |_=>exact h.elim
     | bool a=>
       cases b with
       | bool b=>
         rcases hT.bo t with e|⟨q,e,hb⟩
         ·simp[e,Rd.Runs]at h
         ·cases op<;>first|(simp only[e,hb,Yy,L6,Bool.true_and,Bool.and_true,if_true]at h ⊢;exact h)|(simp[L6,Rd.Runs]at h)
       |_=>exact h.elim
     |_=>exact h.elim
   |_=>cases a<;>exact h.elim
 |_=>exact h.elim
theorem Jf {d:Option Tmp}{op:UnOp}{x:Operand}{ls:List Loc}{out:Out}(h:(Np ah n d op x).Runs g ls out):(Q3 n d op x).Runs g ls out:=by
 unfold Np at h;unfold Q3;refine cr ?_ h;intro a ls h;cases a with
 |v a=>cases op<;>cases a<;>exact h
 |_=>cases op<;>exact h
theorem F3 {α:Type}{a:A}{k:Nat->Rd α}{ls:List Loc}{x:α}(h:(Ke ah a k).Runs g ls x):(Im a k).Runs g ls x:=by
 cases a with
 | vn r j ver iv p lo m=>
   refine cC ?_ h;intro hv ls h
   revert h
   generalize hv.c=c;intro h;cases c with
   | own l=>
     refine cd (fun ls h=>?_) h;obtain⟨hs,h⟩:=h;obtain⟨⟨sz,es⟩,e⟩:=Option.isSome_iff_exists.1 hs;obtain⟨rec,o,f1,f2⟩:=k9 e;simp only[f1,f2];exact h
   |ro l=>exact h
   |gone=>exact h
 | vw r j ver lo m=>
   refine cC ?_ h;intro hv ls h
   revert h
   generalize hv.c=c;intro h;cases c with
   |own l=>cases l<;>exact h
   |ro l=>exact h
   |gone=>exact h
 |_=>exact h
theorem oC {α:Type}{ti:TI}{a:A}{k' k:aa->List (Nat×Nat)->Rd α}{ls:List Loc}{x:α}(hk:∀ es src ls,(k' es src).Runs g ls x->(k es src).Runs g ls x)(h:(pL ah ti a k').Runs g ls x):(kT ti a k).Runs g ls x:=by
 cases a with
 |nl=>exact hk _ _ _ h
 |ro sz es=>exact cd (fun ls h=>gF id (fun ls h=>hk _ _ _ h) h) h
 | vw r j ver lo m=>
   refine cC ?_ h;intro hv ls h
   revert h
   generalize hv.c=c;intro h;cases c with
   | own l=>cases l with
     | s sz es=>
       refine cd (fun ls h=>?_) h;by_cases hs:eP ti.slots=true
       ·rw[if_pos hs]at h ⊢;exact gF id (fun ls h=>hk _ _ _ h) h
       ·rw[if_neg hs]at h ⊢;exact gF id (fun ls h=>hk _ _ _ h) h
     |v x=>exact h
     |g=>exact h
     |m _ _=>exact h
   |ro l=>exact h
   |gone=>exact h
 | vn r j ver iv p lo m=>
   refine cC ?_ h;intro hv ls h
   revert h
   generalize hv.c=c;intro h;cases c with
   | own l=>
     refine cd (fun ls h=>?_) h;obtain⟨⟨h1,h2⟩,h⟩:=h;obtain⟨rec,o,f1,f2⟩:=k9 h1;simp only[f1,f2,beq_self_eq_true,if_true];exact⟨h2,hk _ _ _ h⟩
   |ro l=>exact h
   |gone=>exact h
 |_=>exact h
theorem dz (hT:bp P T){d:Option Tmp}{t t':TypeId}{s x:Operand}{ls:List Loc}{out:Out}(h:(kV T ah n d t t' s x).Runs g ls out):(jK P n d t t' s x).Runs g ls out:=by
 revert h
 unfold kV jK;rcases hT.el t with e|⟨q,e,e2⟩
 ·simp only[e];exact fun h=>h.elim
 simp only[e,e2];intro h
 ·
   obtain⟨e,ti,b⟩:=q;refine cd (fun ls h=>?_) h;refine cr ?_ h;intro a ls h;refine cr ?_ h;intro b ls h;rw[pN]at h;refine mD ?_ h;intro l og src ls h;cases l with
   | s sz es=>
     refine cd (fun ls h=>?_) h;refine oC ?_ h;intro es2 src2 ls h;exact h
   |v y=>exact h
   |g=>exact h
   |m _ _=>exact h
theorem zE (hT:bp P T){d:Option Tmp}{t t':TypeId}{s x:Operand}{ls:List Loc}{out:Out}(h:(pQ T ah n d t t' s x).Runs g ls out):(kW P n d t t' s x).Runs g ls out:=by
 revert h
 unfold pQ kW;rcases hT.el t with e|⟨q,e,e2⟩
 ·simp only[e];exact fun h=>h.elim
 simp only[e,e2];intro h;obtain⟨e,ti,b⟩:=q;refine cd (fun ls h=>?_) h;refine cr ?_ h;intro a ls h;refine cr ?_ h;intro b ls h;rw[pN]at h;refine mD ?_ h;intro l og src ls h;cases l with
 |s sz es=>exact h
 |v y=>exact h
 |g=>exact h
 |m _ _=>exact h
theorem zF (hT:bp P T){d:Option Tmp}{t t':TypeId}{s x:Operand}{ls:List Loc}{out:Out}(h:(pR T ah n d t t' s x).Runs g ls out):(kX P n d t t' s x).Runs g ls out:=by
 unfold pR at h;unfold kX;refine cr ?_ h;intro b ls h;cases b with
 | vw r j ver lo m=>
   obtain⟨ls',e,h⟩:=h;refine⟨ls',e,?_⟩
   revert h;generalize g (Loc.meta_ r)=mv;intro h
   rcases hT.el t with e|⟨q,e,e2⟩
   ·simp only[e]at h;cases mv with
    |none=>exact dz hT h
    | some v=>cases v with
      | m k bx=>cases bx with
        |true=>exact h.elim
        |false=>exact dz hT h
      |_=>exact dz hT h
   ·obtain⟨e0,ti,b⟩:=q;simp only[e,e2]at h ⊢;cases mv with
    |none=>exact dz hT h
    | some v=>cases v with
      | m k bx=>cases bx with
        | true=>
          simp only at h ⊢;by_cases c:eP ti.slots=true
          ·rw[if_pos c]at h ⊢;exact dz hT h
          ·rw[if_neg c]at h ⊢;exact zE hT h
        |false=>exact dz hT h
      |_=>exact dz hT h
 |_=>exact dz hT h
def Ad (g:Gm){α τ:Type}(m:∀ {β:Type},(τ->Rd β)->Rd β)(k':τ->Rd α)(ls:List Loc)(x:α):Prop:=
 ∃ t ls',(k' t).Runs g ls' x/\∀ {β:Type} (k:τ->Rd β) (y:β),(k t).Runs g ls' y->(m k).Runs g ls y
theorem GR {α:Type}{l:Loc}{k':Val->Rd α}{ls:List Loc}{x:α}(h:(rd l k').Runs g ls x):Ad g (fun k=>rd l k) k' ls x:=by
 unfold rd at h;obtain⟨ls',e,h⟩:=h;cases hg:g l with
 |none=>simp[hg,Rd.Runs]at h
 | some v=>
   simp only[hg]at h;refine⟨v,ls',h,?_⟩;intro β k y hy;refine⟨ls',e,?_⟩;simp only[hg];exact hy
theorem IK {α:Type}{d:Nat}{k':R->Rd α}{ls:List Loc}{x:α}(h:(AX d k').Runs g ls x):Ad g (fun k=>AX d k) k' ls x:=by
 obtain⟨v,ls',h1,h2⟩:=GR h;cases v with
 |r y=>exact⟨y,ls',h1,fun k z hz=>h2 _ z hz⟩
 |_=>exact h1.elim
theorem sL {α:Type}{r j:Nat}{k':Hv->Rd α}{ls:List Loc}{x:α}(h:(ez r j k').Runs g ls x):Ad g (fun k=>ez r j k) k' ls x:=by
 obtain⟨v,ls',h1,h2⟩:=GR h;cases v with
 |h y=>exact⟨y,ls',h1,fun k z hz=>h2 _ z hz⟩
 |_=>exact h1.elim
theorem BQ {α:Type}{o:Operand}{k':R->Rd α}{ls:List Loc}{x:α}(h:(ev o k').Runs g ls x):Ad g (fun k=>ev o k) k' ls x:=by
 cases o with
 |tmp t=>exact IK h
 |const c=>exact⟨_,ls,h,fun k y hy=>hy⟩
 |_=>exact h.elim
theorem EW {α:Type}{slot:Option Nat}{a:A}{k':L->Rd α}{ls:List Loc}{x:α}(h:(CR ah slot a k').Runs g ls x):Ad g (fun k=>BL slot a k) k' ls x:=by
 cases slot with
 | none=>
   cases a with
   | v y=>
     simp only[CR]at h;split at h
     ·rename_i hs;exact⟨_,ls,h,fun k z hz=>by simp only[BL,hs,if_true];exact hz⟩
     ·exact h.elim
   |_=>exact h.elim
 | some sz=>
   cases a with
   |nl=>exact⟨_,ls,h,fun k y hy=>hy⟩
   | ro sz' es=>
     simp only[CR]at h;split at h
     ·rename_i hs;exact⟨_,ls,h,fun k z hz=>by simp only[BL,hs,if_true];exact hz⟩
     ·exact h.elim
   | vw r j ver lo m=>
     obtain⟨hv,ls',h1,h2⟩:=sL h;cases hc:hv.c with
     | own l=>cases l with
       | s sz' es=>
         simp only[hc]at h1;split at h1
         ·rename_i hs;exact⟨_,ls',h1,fun k z hz=>h2 _ z (by simp only[hc,hs,if_true];exact hz)⟩
         ·exact h1.elim
       |v x=>simp[hc,Rd.Runs]at h1
       |g=>simp[hc,Rd.Runs]at h1
       |m _ _=>simp[hc,Rd.Runs]at h1
     |ro l=>simp[hc,Rd.Runs]at h1
     |gone=>simp[hc,Rd.Runs]at h1
   | vn r j ver iv p lo m=>
     obtain⟨hv,ls',h1,h2⟩:=sL h;cases hc:hv.c with
     | own l=>
       simp only[hc]at h1;split at h1
       ·rename_i hg;obtain⟨e1,h1⟩:=h1;obtain⟨rec,o,f1,f2⟩:=k9 e1;refine⟨_,ls',h1,fun k z hz=>h2 _ z ?_⟩;simp only[hc,hg,if_true,f1,f2,beq_self_eq_true];exact hz
       ·exact h1.elim
     |ro l=>simp[hc,Rd.Runs]at h1
     |gone=>simp[hc,Rd.Runs]at h1
   |_=>exact h.elim
theorem iz {α:Type}:∀ {sl:List (Option Nat)} {as:List A} {k':ay->Rd α} {ls:List Loc} {x:α},(gf ah sl as k').Runs g ls x->Ad g (fun k=>dL sl as k) k' ls x
 |[],[],_,ls,_,h=>⟨_,ls,h,fun _ _ hy=>hy⟩
 |[],_::_,_,_,_,h=>h.elim
 |_::_,[],_,_,_,h=>h.elim
 | _::_,_::_,_,_,_,h=>by
   obtain⟨l,ls1,h1,h2⟩:=EW h;obtain⟨l2,ls2,h3,h4⟩:=iz h1;exact⟨l::l2,ls2,h3,fun k y hy=>h2 _ y (h4 _ y hy)⟩
theorem fV {α:Type}{r:Nat}:∀ {m j:Nat} {k':ay->Rd α} {ls:List Loc} {x:α},(dR r j m k').Runs g ls x->Ad g (fun k=>dR r j m k) k' ls x
 |0,_,_,ls,_,h=>⟨_,ls,h,fun _ _ hy=>hy⟩
 | m+1,j,_,_,_,h=>by
   obtain⟨hv,ls1,h1,h2⟩:=sL h;cases hc:hv.c with
   | own l=>
     simp only[hc]at h1;obtain⟨rec,ls2,h3,h4⟩:=fV h1;exact⟨l::rec,ls2,h3,fun k y hy=>h2 _ y (by simp only[hc];exact h4 _ y hy)⟩
   | ro l=>
     simp only[hc]at h1;obtain⟨rec,ls2,h3,h4⟩:=fV h1;exact⟨l::rec,ls2,h3,fun k y hy=>h2 _ y (by simp only[hc];exact h4 _ y hy)⟩
   |gone=>simp[hc,Rd.Runs]at h1
theorem H7 {α:Type}{l:Loc}{k':Option Val->Rd α}{ls:List Loc}{x:α}(h:(Rd.get l k').Runs g ls x):Ad g (fun k=>Rd.get l k) k' ls x:=by
 obtain⟨ls',e,h⟩:=h;exact⟨g l,ls',h,fun k y hy=>⟨ls',e,hy⟩⟩
theorem gW {α:Type}:∀ {cs:List BC} {k':aa->Rd α} {ls:List Loc} {x:α},(dZ cs k').Runs g ls x->Ad g (fun k=>dZ cs k) k' ls x
 |[],_,ls,_,h=>⟨_,ls,h,fun _ _ hy=>hy⟩
 | .pt r j::cs,_,_,_,h=>by
   obtain⟨v,ls1,h1,h2⟩:=H7 h;dsimp only at h1;split at h1
   ·rename_i n;split at h1
    ·rename_i hj;obtain⟨rec,ls2,h3,h4⟩:=fV h1;obtain⟨recs,ls3,h5,h6⟩:=gW h3;exact⟨rec::recs,ls3,h5,fun k y hy=>h2 _ y (by simp only[hj,if_true];exact h4 _ y (h6 _ y hy))⟩
    ·exact h1.elim
   ·exact h1.elim
 | .rp rec j::cs,_,_,_,h=>by
   simp only[dZ]at h;split at h
   ·rename_i hj;obtain⟨recs,ls3,h5,h6⟩:=gW h;exact⟨_,ls3,h5,fun k y hy=>by simp only[dZ,hj,if_true];exact h6 _ y hy⟩
   ·exact h.elim
theorem yJ {α:Type}{o:Operand}{k':A->Rd α}{ls:List Loc}{x:α}(h:(dN o k').Runs g ls x):Ad g (fun k=>dN o k) k' ls x:=by
 obtain⟨v,ls1,h1,h2⟩:=BQ h;cases v with
 |one a=>exact⟨a,ls1,h1,fun k y hy=>h2 _ y hy⟩
 |agg as=>exact h1.elim
 |tup rs=>exact h1.elim
theorem EY (hT:bp P T){α:Type}{t:TypeId}{o:Operand}{k':DV->Rd α}{ls:List Loc}{x:α}(h:(EX (lk T.ptL t) o k').Runs g ls x):Ad g (fun k=>EX (DL P t) o k) k' ls x:=by
 obtain⟨v,ls1,h1,h2⟩:=yJ h;cases v with
 | pt r j=>
   rcases hT.pt t with e|⟨ti,e,e2⟩
   ·simp[e,Rd.Runs]at h1
   ·simp only[e]at h1;split at h1
    ·rename_i hp;obtain⟨rec,ls2,h3,h4⟩:=fV h1;exact⟨_,ls2,h3,fun k y hy=>h2 _ y (by simp only[e2,hp,if_true];exact h4 _ y hy)⟩
    ·exact h1.elim
 | rp rec j=>
   rcases hT.pt t with e|⟨ti,e,e2⟩
   ·simp[e,Rd.Runs]at h1
   ·simp only[e]at h1;split at h1
    ·rename_i hp;exact⟨_,ls1,h1,fun k y hy=>h2 _ y (by simp only[e2];rw[if_pos hp];exact hy)⟩
    ·exact h1.elim
 | fn f caps=>
   obtain⟨recs,ls2,h3,h4⟩:=gW h1;exact⟨_,ls2,h3,fun k y hy=>h2 _ y (h4 _ y hy)⟩
 |_=>exact h1.elim
theorem EV (hT:bp P T){α:Type}{t:TypeId}{o:Operand}{k':DV->Rd α}{ls:List Loc}{x:α}(h:(EU T ah t o k').Runs g ls x):Ad g (fun k=>BJ P t o k) k' ls x:=by
 unfold EU at h;rcases hT.ty t with e|⟨ti,e,hti⟩
 ·simp only[e]at h;split at h
  ·rename_i hp;rcases hT.pn t with f|⟨_,_,f⟩
   ·simp[f]at hp
   ·obtain⟨d,ls1,h1,h2⟩:=EY hT h;exact⟨d,ls1,h1,fun k y hy=>by unfold BJ;simp only[f];exact h2 _ y hy⟩
  ·exact h.elim
 ·simp only[e]at h;obtain⟨v,ls1,h1,h2⟩:=BQ h;cases v with
  | one a=>
    simp only at h1;split at h1
    ·exact h1.elim
    ·rename_i hb;obtain⟨l,ls2,h3,h4⟩:=iz h1;simp only at h3;split at h3
     ·refine⟨_,ls2,h3,fun k y hy=>?_⟩;unfold BJ;simp only[hti];refine h2 _ y ?_;simp only;rw[if_neg hb];exact h4 _ y hy
     ·exact h3.elim
  | agg as=>
    simp only at h1;split at h1
    ·rename_i hb;obtain⟨l,ls2,h3,h4⟩:=iz h1;refine⟨_,ls2,h3,fun k y hy=>?_⟩;unfold BJ;simp only[hti];refine h2 _ y ?_;simp only;rw[if_pos hb];exact h4 _ y hy
    ·exact h1.elim
  |tup rs=>exact h1.elim
theorem oU (hT:bp P T){α:Type}:∀ {ts:List TypeId} {xs:List Operand} {k':List DV->Rd α} {ls:List Loc} {x:α},(yp T ah ts xs k').Runs g ls x->Ad g (fun k=>mM P ts xs k) k' ls x
 |[],[],_,ls,_,h=>⟨_,ls,h,fun _ _ hy=>hy⟩
 |[],_::_,_,_,_,h=>h.elim
 |_::_,[],_,_,_,h=>h.elim
 | _::_,_::_,_,_,_,h=>by
   obtain⟨l,ls1,h1,h2⟩:=EV hT h;obtain⟨l2,ls2,h3,h4⟩:=oU hT h1;exact⟨l::l2,ls2,h3,fun k y hy=>h2 _ y (h4 _ y hy)⟩
theorem Ee {α:Type}{d:Option Tmp}{k':Nat->Rd α}{ls:List Loc}{x:α}(h:(fresh n d k').Runs g ls x):Ad g (fun k=>fresh n d k) k' ls x:=by
 cases d with
 |none=>exact h.elim
 | some d=>
   simp only[fresh]at h;split at h
   ·rename_i hlt;obtain⟨ls',e,h⟩:=h;cases hg:g (.meta_ d)with
    | none=>
      simp only[hg]at h;refine⟨d,ls',h,fun k y hy=>?_⟩;simp only[fresh,hlt,if_true,Rd.Runs];exact⟨ls',e,by simp only[hg];exact hy⟩
    |some v=>simp[hg,Rd.Runs]at h
   ·exact h.elim
def yh (P:Program)(ct:CT):Prop:=∀ f ds pre res,ct f ds=some (pre,res)->pre ()->EO P f ds res
def Ag (P:Program)(mt:MT):Prop:=∀ f mk,mt f=some mk->∀ ds pre outs res,mk ds=some (pre,outs,res)->pre ()->Af P f ds outs res
def Ah (P:Program)(pt:FuncId->Option PK):Prop:=∀ f mk,pt f=some mk->∀ ds pre outs res,mk ds=some (pre,outs,res)->pre ()->ym P f ds outs res
def BF (P:Program)(nt:FuncId->Option NK):Prop:=∀ f mk,nt f=some mk->∀ ds pre hs,mk ds=some (pre,hs)->pre ()->RS P f ds hs
def BG (P:Program)(ot:FuncId->Option RV):Prop:=∀ f mk,ot f=some mk->∀ ds pre res,mk ds=some (pre,res)->pre ()->RU P f ds res
def xu (P:Program)(ct:D8):Prop:=yh P ct.rd/\Ag P ct.mu/\Ah P ct.pt/\BF P ct.nw/\BG P ct.tk
def Ld (P:Program)(n:Nat)(o:Oper)(rd:Rd Out):Prop:=
 ∀ (cx:Cx) (G:Gh) (g:Gm) (a:Act) (w:World) (ls:List Loc) (ws:List W),cx.n=n->aP cx G g a w->rd.Runs g ls (.ws ws)->
  ∀ (K:Act->World->Prop) (Q:Exit->Act->World->Prop),(∀ a' w',de cx (aS g ws) a' w'->K a' w')->o.wp P a w K Q
def dK (P:Program)(n:Nat)(o:Oper)(g:Gm)(ls:List Loc)(ws:List W):Prop:=
 (fO o=none/\(NV P n o).Runs g ls (.ws ws))\/
 (∃ f ts args ds mk res,fO o=some (f,ts,args)/\(ye P n o.dst f ts args).Runs g ls (.call f ds mk)/\EO P f ds res/\ws=mk res)\/
 (∃ f ts args mk,fO o=some (f,ts,args)/\(∀ ds pre outs res,mk ds=some (pre,outs,res)->pre ()->Af P f ds outs res)/\(pS iW jy wg (j3 P) n o.dst (dm P f) ts args mk dG).Runs g ls (.ws ws))\/
 ∃ rd,Ld P n o rd/\rd.Runs g ls (.ws ws)
theorem Er {α:Type}{slot:Option Nat}{a:A}{k' k:L->List Pl->Rd α}{x:α}{ls:List Loc}(hk:∀ l p ls,(k' l p).Runs g ls x->(k l p).Runs g ls x)(h:(GD iW jy slot a k').Runs g ls x):(GD iW jy slot a k).Runs g ls x:=by
 cases slot with
 | none=>
   cases a with
   |v y=>exact cd (fun ls h=>hk _ _ _ h) h
   |_=>exact h
 | some sz=>
   cases a with
   | vw r j ver lo m=>
     refine cC ?_ h;intro hv ls h
     revert h
     generalize hv.c=c;intro h;cases c with
     | own l=>cases l with
       |s sz' es=>exact cd (fun ls h=>gF id (fun ls h=>hk _ _ _ h) h) h
       |v x=>exact h
       |g=>exact h
       |m _ _=>exact h
     |ro l=>exact h
     |gone=>exact h
   | vn r j ver iv p lo m=>
     refine cC ?_ h;intro hv ls h
     revert h
     generalize hv.c=c;intro h;cases c with
     | own l=>cases l with
       |s sz' es=>exact cd (fun ls h=>gF id (fun ls h=>hk _ _ _ h) h) h
       |v x=>exact h
       |g=>exact h
       |m _ _=>exact h
     |ro l=>exact h
     |gone=>exact h
   |_=>exact h
theorem kM {α:Type}:∀ {sl:List (Option Nat)} {as:List A} {k' k:ay->List Pl->Rd α} {x:α} {ls:List Loc},(∀ l p ls,(k' l p).Runs g ls x->(k l p).Runs g ls x)->(pB iW jy sl as k').Runs g ls x->(pB iW jy sl as k).Runs g ls x
 |[],[],k',k,x,ls,hk,h=>hk _ _ _ h
 |[],_::_,k',k,x,ls,hk,h=>h
 |_::_,[],k',k,x,ls,hk,h=>h
 |s::sl,a::as,k',k,x,ls,hk,h=>Er (fun l p ls h=>kM (fun _ _ ls h=>hk _ _ ls h) h) h
theorem Et {ty ty':TypeId->Option TI}(ht:∀ t x,ty t=some x->ty' t=some x){α:Type}{t:TypeId}{o:Operand}{k' k:DV->List Pl->Rd α}{x:α}{ls:List Loc}(hk:∀ d p ls,(k' d p).Runs g ls x->(k d p).Runs g ls x) 
 (h:(Es iW jy ty t o k').Runs g ls x):(Es iW jy ty' t o k).Runs g ls x:=by
 unfold Es at h ⊢;cases hti:ty t with
 |none=>simp[hti,Rd.Runs]at h
 | some ti=>
   simp only[hti]at h;simp only[ht t ti hti];refine sB ?_ h;intro v ls h;cases v with
   | one a=>
     simp only at h ⊢;split at h
     ·exact h.elim
     ·rename_i hb;rw[if_neg hb];refine kM ?_ h;intro l p ls h;split at h
      ·exact hk _ _ _ h
      ·exact h.elim
   | agg as=>
     simp only at h ⊢;split at h
     ·rename_i hb;rw[if_pos hb];exact kM (fun l p ls h=>hk _ _ _ h) h
     ·exact h.elim
   |tup rs=>exact h
theorem vo {ty ty':TypeId->Option TI}(ht:∀ t x,ty t=some x->ty' t=some x){α:Type}:∀ {ts:List TypeId} {xs:List Operand} {k' k:List DV->List Pl->Rd α} {x:α} {ls:List Loc},(∀ d p ls,(k' d p).Runs g ls x->(k d p).Runs g ls x)->
 (x6 iW jy ty ts xs k').Runs g ls x->(x6 iW jy ty' ts xs k).Runs g ls x
 |[],[],k',k,x,ls,hk,h=>hk _ _ _ h
 |[],_::_,k',k,x,ls,hk,h=>h
 |_::_,[],k',k,x,ls,hk,h=>h
 |t::ts,o::xs,k',k,x,ls,hk,h=>Et ht (fun d p ls h=>vo ht (fun _ _ ls h=>hk _ _ ls h) h) h
theorem Bi (hT:bp P T){o:Oper}{f:FuncId}{ts:Array TypeId}{args:Array Operand}{mk:MK}{ls:List Loc}{ws:List W}(hc:fO o=some (f,ts,args))(hmk:∀ ds pre outs res,mk ds=some (pre,outs,res)->pre ()->Af P f ds outs res) 
 (h:(pS ah.pr ah.ps ah.up (lk T.tyL) n o.dst (lk T.fnL f).isSome ts args mk (eU ah)).Runs g ls (.ws ws)):dK P n o g ls ws:=by
 refine .inr (.inr (.inl ⟨f,ts,args,mk,hc,hmk,?_⟩));rw[show ah.pr=iW from rfl,show ah.ps=jy from rfl,show ah.up=wg from rfl,show eU ah=dG from by funext d res;exact iQ d res]at h;unfold pS at h ⊢;split at h
 ·rename_i hb';have hb:dm P f=true:=by
   rcases hT.fn f with e|⟨_,_,e⟩
   ·rw[e]at hb';cases hb'
   ·exact e
  rw[if_pos hb];refine vo ?_ (fun _ _ _ h=>h) h;intro t x e;rcases hT.ty t with q|⟨y,q1,q2⟩
  ·rw[q]at e;cases e
  ·rw[q1]at e;cases e;exact q2
 ·exact h.elim
theorem CJ (hT:bp P T){ct:D8}(hct:xu P ct){o:Oper}{f:FuncId}{ts:Array TypeId}{args:Array Operand}{ls:List Loc}{ws:List W}(hc:fO o=some (f,ts,args)) 
 (h:(CH T ah ct n o.dst f ts args).Runs g ls (.ws ws)):dK P n o g ls ws:=by
 unfold CH at h;split at h
 ·rename_i hb';have hb:dm P f=true:=by
   rcases hT.fn f with e|⟨_,_,e⟩
   ·rw[e]at hb';cases hb'
   ·exact e
  obtain⟨ds,ls1,h1,h2⟩:=oU hT h;simp only at h1;split at h1
  ·rename_i pre res he;obtain⟨hp,h1⟩:=h1;obtain⟨d,ls2,h3,h4⟩:=Ee h1;simp only[Rd.Runs,Out.ws.injEq]at h3;obtain⟨rfl,rfl⟩:=h3;refine .inr (.inl ⟨f,ts,args,ds,dG d,res,hc,?_,hct.1 _ _ _ _ he hp,by rw[iQ]⟩);unfold ye;rw[if_pos hb];refine h2 _ _ (h4 _ _ ?_);simp[Rd.Runs]
  ·exact h1.elim
 ·exact h.elim
theorem mn {α:Type}{r:Nat}:∀ {m j:Nat} {k':List H->Rd α} {ls:List Loc} {x:α},(ie r j m k').Runs g ls x->Ad g (fun k=>ie r j m k) k' ls x
 |0,_,_,ls,_,h=>⟨_,ls,h,fun _ _ hy=>hy⟩
 | m+1,j,_,_,_,h=>by
   obtain⟨hv,ls1,h1,h2⟩:=sL h;cases hc:hv.c with
   | own l=>
     simp only[hc]at h1;obtain⟨rec,ls2,h3,h4⟩:=mn h1;exact⟨.own l::rec,ls2,h3,fun k y hy=>h2 _ y (by simp only[hc];exact h4 _ y hy)⟩
   | ro l=>
     simp only[hc]at h1;obtain⟨rec,ls2,h3,h4⟩:=mn h1;exact⟨.ro l::rec,ls2,h3,fun k y hy=>h2 _ y (by simp only[hc];exact h4 _ y hy)⟩
   |gone=>simp[hc,Rd.Runs]at h1
theorem GF (hT:bp P T){α:Type}{t:TypeId}{o:Operand}{k':DV×List (Nat×Nat)×List gN->Rd α}{ls:List Loc}{x:α} 
 (h:(zg (fun {β}=>gf ah (α:=β)) (lk T.tyL) (lk T.ptL) (fun t=>(lk T.pnL t).isSome) t o fun d s p=>k' (d,s,p)).Runs g ls x):Ad g (fun k=>zg dL (j3 P) (DL P) (fun _=>true) t o fun d s p=>k (d,s,p)) k' ls x:=by
 unfold zg at h;rcases hT.ty t with e|⟨ti,e,hti⟩
 ·simp only[e]at h;split at h
  case isFalse=>exact h.elim
  rename_i hp;rcases hT.pn t with f|⟨_,_,f⟩
  ·simp[f]at hp
  obtain⟨v,ls1,h1,h2⟩:=yJ h;cases v with
  | pt r j=>
    rcases hT.pt t with e3|⟨ti,e3,e4⟩
    ·simp[e3,Rd.Runs]at h1
    ·simp only[e3]at h1;split at h1
     ·rename_i hpos;obtain⟨hs,ls2,h3,h4⟩:=mn h1;exact⟨(_,_,_),ls2,h3,fun k y hy=>by unfold zg;simp only[f,if_true];exact h2 _ y (by simp only[e4,hpos,if_true];exact h4 _ y hy)⟩
     ·exact h1.elim
  |_=>exact h1.elim
 ·simp only[e]at h;obtain⟨v,ls1,h1,h2⟩:=BQ h;cases v with
  | one a=>
    simp only at h1;split at h1
    ·exact h1.elim
    ·rename_i hb;obtain⟨l,ls2,h3,h4⟩:=iz h1;simp only at h3;split at h3
     ·refine⟨(_,_,_),ls2,h3,fun k y hy=>?_⟩;unfold zg;simp only[hti];refine h2 _ y ?_;simp only;rw[if_neg hb];exact h4 _ y hy
     ·exact h3.elim
  | agg as=>
    simp only at h1;split at h1
    ·rename_i hb;obtain⟨l,ls2,h3,h4⟩:=iz h1;refine⟨(_,_,_),ls2,h3,fun k y hy=>?_⟩;unfold zg;simp only[hti];refine h2 _ y ?_;simp only;rw[if_pos hb];exact h4 _ y hy
    ·exact h1.elim
  |tup rs=>exact h1.elim
theorem pC (hT:bp P T){α:Type}:∀ {ts:List TypeId} {xs:List Operand} {k':List DV×List (Nat×Nat)×List gN->Rd α} {ls:List Loc} {x:α},
 (oe (fun {β}=>gf ah (α:=β)) (lk T.tyL) (lk T.ptL) (fun t=>(lk T.pnL t).isSome) ts xs fun d s p=>k' (d,s,p)).Runs g ls x->Ad g (fun k=>oe dL (j3 P) (DL P) (fun _=>true) ts xs fun d s p=>k (d,s,p)) k' ls x
 |[],[],_,ls,_,h=>⟨(_,_,_),ls,h,fun _ _ hy=>hy⟩
 |[],_::_,_,_,_,h=>h.elim
 |_::_,[],_,_,_,h=>h.elim
 | t::ts,o::xs,k',_,_,h=>by
   obtain⟨⟨d,s,p⟩,ls1,h1,h2⟩:=GF hT (k':=fun q=>oe (fun {β}=>gf ah (α:=β)) (lk T.tyL) (lk T.ptL) (fun t=>(lk T.pnL t).isSome) ts xs fun ds srcs pts=>k' (q.1::ds,q.2.1++srcs,q.2.2++pts)) h;obtain⟨⟨ds,ss,ps⟩,ls2,h3,h4⟩:=pC hT (k':=fun q=>k' (d::q.1,s++q.2.1,p++q.2.2)) h1;exact⟨(_,_,_),ls2,h3,fun k y hy=>h2 (fun q=>oe dL (j3 P) (DL P) (fun _=>true) ts xs fun ds srcs pts=>k (q.1::ds,q.2.1++srcs,q.2.2++pts)) y (h4 (fun q=>k (d::q.1,s++q.2.1,p++q.2.2)) y hy)⟩
theorem Bj (hT:bp P T){o:Oper}{f:FuncId}{ts:Array TypeId}{args:Array Operand}{mk:PK}{ls:List Loc}{ws:List W}(hc:fO o=some (f,ts,args))(hmk:∀ ds pre outs res,mk ds=some (pre,outs,res)->pre ()->ym P f ds outs res) 
 (h:(pT ah.pr (fun {β}=>gf ah (α:=β)) (lk T.tyL) (lk T.ptL) (fun t=>(lk T.pnL t).isSome) n o.dst (lk T.fnL f).isSome ts args mk (eU ah)).Runs g ls (.ws ws)):dK P n o g ls ws:=by
 refine .inr (.inr (.inr ⟨pT iW dL (j3 P) (DL P) (fun _=>true) n o.dst (dm P f) ts args mk dG,?_,?_⟩))
 ·intro cx G g a w ls ws hn hS h K Q hk;subst hn;exact zN (kw hc) hS hmk h hk
 ·rw[show ah.pr=iW from rfl,show eU ah=dG from by funext d res;exact iQ d res]at h;unfold pT at h ⊢;split at h
  ·rename_i hb';have hb:dm P f=true:=by
    rcases hT.fn f with e|⟨_,_,e⟩
    ·rw[e]at hb';cases hb'
    ·exact e
   rw[if_pos hb];obtain⟨⟨ds,ss,ps⟩,ls1,h1,h2⟩:=pC hT (k':=fun q=>match mk q.1 with
    | some (pre,outs,res)=>if jZ q.2.2&&q.2.1.all (fun s=>q.2.2.all fun p=> !AD s p)then .req (iW pre) (EC q.2.2 outs fun ws=>match o.dst with
       |some _=>fresh n o.dst fun d=>.ret (Out.ws (ws++dG d res))
       |none=>.ret (Out.ws ws))else .fail
    |none=>.fail) h
   exact h2 (fun q=>match mk q.1 with
    | some (pre,outs,res)=>if jZ q.2.2&&q.2.1.all (fun s=>q.2.2.all fun p=> !AD s p)then .req (iW pre) (EC q.2.2 outs fun ws=>match o.dst with
       |some _=>fresh n o.dst fun d=>.ret (Out.ws (ws++dG d res))
       |none=>.ret (Out.ws ws))else .fail
    |none=>.fail) _ h1
  ·exact h.elim
theorem CG (hT:bp P T){ct:D8}{d:Option Tmp}{t:Tmp}{ts:Array TypeId}{args:Array Operand}{ls:List Loc}{out:Out} 
 (h:(zJ T ah ct n d t ts args).Runs g ls out):(zI P ct.rd n d t ts args).Runs g ls out:=by
 unfold zJ at h;obtain⟨v,ls1,h1,h2⟩:=yJ h;cases v with
 | fn f caps=>
   obtain⟨ds,ls2,h3,h4⟩:=oU hT h1;obtain⟨recs,ls3,h5,h6⟩:=gW h3;unfold zI;refine h2 _ _ (h4 _ _ (h6 _ _ ?_));cases hm:ct.rd f (ds++recs.map .ptr)with
   |none=>simp[hm,Rd.Runs]at h5
   | some pr=>
     obtain⟨pre,res⟩:=pr;simp only[hm]at h5 ⊢;obtain⟨hp,hb,h5⟩:=h5;refine⟨⟨hp,?_⟩,?_⟩
     ·rcases hT.fn f with e|⟨_,_,e⟩
      ·have hb:(lk T.fnL f).isSome=true:=hb;rw[e]at hb;cases hb
      ·exact e
     ·rw[show eU ah=dG from by funext d res;exact iQ d res]at h5;exact h5
 |_=>exact h1.elim
theorem Bh (hT:bp P T){d:Option Tmp}{t:Tmp}{ts:Array TypeId}{args:Array Operand}{pt:FuncId->Option PK}{ls:List Loc}{out:Out} 
 (h:(lJ iW (fun {β}=>gf ah (α:=β)) (lk T.tyL) (lk T.ptL) (fun t=>(lk T.pnL t).isSome) n d (fun f=>(lk T.fnL f).isSome) t ts args pt (eU ah)).Runs g ls out):
 (lJ iW dL (j3 P) (DL P) (fun _=>true) n d (dm P) t ts args pt dG).Runs g ls out:=by
 unfold lJ at h ⊢;refine cr ?_ h;intro v ls h;cases v with
 | fn f caps=>
   simp only at h ⊢;cases hm:pt f with
   |none=>simp[hm,Rd.Runs]at h
   | some mk=>
     simp only[hm]at h ⊢;rcases hT.fn f with e|⟨_,e1,e2⟩
     ·simp[e,Rd.Runs]at h
     rw[if_pos e2];rw[if_pos (by rw[e1];rfl)]at h;rw[show eU ah=dG from by funext d res;exact iQ d res]at h;obtain⟨⟨ds,ss,ps⟩,ls1,h1,h2⟩:=pC hT (k':=fun q=>uu caps fun ds2 pts2=>Bd iW n d (q.1++ds2) q.2.1 (q.2.2++pts2) mk dG) h;exact h2 (fun q=>uu caps fun ds2 pts2=>Bd iW n d (q.1++ds2) q.2.1 (q.2.2++pts2) mk dG) _ h1
 |_=>exact h.elim
def CI (P:Program)(ct:D8)(n:Nat)(d:Option Tmp)(t:Tmp)(ts:Array TypeId)(args:Array Operand):Rd Out:=
 dN (.tmp t) fun
  | .fn f _=>match ct.pt f with
    |some _=>lJ iW dL (j3 P) (DL P) (fun _=>true) n d (dm P) t ts args ct.pt dG
    |none=>zI P ct.rd n d t ts args
  |_=>.fail
theorem Bl (hT:bp P T){ct:D8}(hct:xu P ct){o:Oper}{t:Tmp}{ts:Array TypeId}{args:Array Operand}{ls:List Loc}{ws:List W}(ho:o.op=.call {callee:=.value (.tmp t),args:=args,argTypes:=ts}) 
 (h:(zO T ah ct n o.dst t ts args).Runs g ls (.ws ws)):dK P n o g ls ws:=by
 refine .inr (.inr (.inr ⟨CI P ct n o.dst t ts args,?_,?_⟩))
 ·intro cx G g a w ls ws hn hS h K Q hk;subst hn;unfold CI at h;obtain⟨x0,ls1,hx,h⟩:=aW hS h;cases x0 with
  | fn f caps=>
    simp only at h;split at h
    ·exact xh ho hS (fun f mk e=>hct.2.2.1 f mk e) h hk
    ·exact zK (fun f ds pre res e hp=>hct.1 f ds pre res e hp) ho hS h hk
  |_=>exact h.elim
 ·unfold zO at h;unfold CI;refine cr ?_ h;intro v ls h;cases v with
  | fn f caps=>
    simp only at h ⊢;cases hm:ct.pt f with
    |some mk=>simp only[hm]at h ⊢;exact Bh hT h
    |none=>simp only[hm]at h ⊢;exact CG hT h
  |_=>exact h.elim
theorem C4 {α:Type}{x:Operand}{k':A->Rd α}{ls:List Loc}{o:α}(h:(dN x k').Runs g ls o):
 ∃ a ls1 ls',(k' a).Runs g ls' o/\∀ {β:Type} (k:A->Rd β) (ls'':List Loc) (o':β),(k a).Runs g ls'' o'->(dN x k).Runs g (ls1++ls'') o':=by
 unfold dN ev at h;cases x with
 | tmp t=>
   simp only[AX,rd,Rd.Runs]at h;obtain⟨ls',_,h⟩:=h;cases hg:g (.reg t)with
   |none=>simp only[hg]at h;exact h.elim
   | some v=>
     cases v with
     | r y=>
       cases y with
       | one a=>
         simp only[hg]at h;refine⟨a,[.reg t],ls',h,fun k ls'' o' hk=>?_⟩;simp only[dN,ev,AX,rd,Rd.Runs];refine⟨ls'',rfl,?_⟩;rw[hg];exact hk
       |agg _=>simp only[hg]at h;exact h.elim
       |tup _=>simp only[hg]at h;exact h.elim
     |h _=>simp only[hg]at h;exact h.elim
     |m _ _=>simp only[hg]at h;exact h.elim
 | const c=>
   simp only at h;cases hc:yG c with
   | one a=>
     rw[hc]at h;refine⟨a,[],ls,h,fun k ls'' o' hk=>?_⟩;unfold dN ev;simp only[hc];exact hk
   |agg _=>rw[hc]at h;exact h.elim
   |tup _=>rw[hc]at h;exact h.elim
 |_=>exact h.elim
theorem px {ln:Ln}{v:Option Val}{a b c:Nat}(h:cN ln v=some (a,b,c)):∃ hv es,v=some (.h hv)/\hv.c=.own (.s b es)/\a=hv.ver/\c=ln.f es:=by
 unfold cN at h
 repeat' split at h
 all_goals first|(cases h;done)|(rename_i hv _ sz es e;simp only[Wn,Yd]at h;obtain⟨rfl,rfl,rfl⟩:=h;exact⟨_,es,rfl,e,rfl,rfl⟩)
theorem zV {d:Option Tmp}{t:TypeId}{x:Operand}{lo hi mx:Option Operand}{ls:List Loc}{out:Out}(h:(v7 T ah n d t x lo hi mx).Runs g ls out):∃ ls2,(oK T ah n d t x lo hi mx).Runs g ls2 out:=by
 unfold v7 at h;cases he:lk T.elL t with
 |none=>simp only[he]at h;exact h.elim
 | some q=>
   obtain⟨e,ti,b⟩:=q;cases mx with
   |some _=>simp only[he]at h;exact h.elim
   | none=>
     simp only[he]at h;obtain⟨a,ls1,ls',h1,h2⟩:=C4 h;cases a with
     | vw r j ver lo' m=>
       simp only at h1;obtain⟨ls3,_,h1⟩:=h1
       revert h1;generalize hh:cN _ (g (.leaf r j))=q;intro h1
       cases q with
       |none=>exact h1.elim
       | some q=>
         obtain⟨v,s,m'⟩:=q;obtain⟨hv,es,e1,e2,e3,e4⟩:=px hh;simp only at h1;unfold oK;simp only[he];refine⟨_,h2 _ (.leaf r j::ls3) _ ?_⟩;simp only[ez,rd,Rd.Runs];refine⟨ls3,rfl,?_⟩;rw[e1];simp only[e2];subst e3;exact h1
     |_=>exact⟨_,h1⟩
theorem Bq {d:Option Tmp}{t:TypeId}{x:Operand}{ls:List Loc}{out:Out}(h:(oJ T ah n d t x).Runs g ls out):∃ ls2,(mG T ah n d t x).Runs g ls2 out:=by
 unfold oJ at h;cases hp:MY (lk T.tyL t)with
 |false=>simp only[hp]at h;exact⟨_,h⟩
 | true=>
   simp only[hp]at h;cases he:lk T.tyL t with
   |none=>rw[he]at hp;cases hp
   | some ti=>
     rw[he]at hp;simp only[MY,AI,XE]at hp;have hz:=V0 hp.2;obtain⟨a,ls1,ls',h1,h2⟩:=C4 h;cases a with
     | pt r j=>
       simp only at h1;obtain⟨ls3,_,h1⟩:=h1
       revert h1;generalize hh:cN _ (g (.leaf r j))=q;intro h1
       cases q with
       |none=>exact⟨_,h1⟩
       | some q=>
         obtain⟨v,s,m'⟩:=q;obtain⟨hv,es,e1,e2,e3,e4⟩:=px hh;simp only at h1;unfold mG;simp only[he];refine⟨_,h2 _ (.leaf r j::ls3) _ ?_⟩;simp only[hz,eH,ez,rd,Rd.Runs];refine⟨ls3,rfl,?_⟩;rw[e1];simp only[B8,B7,e2,Iv,hp.1];subst e3 e4;exact h1
     |_=>exact⟨_,h1⟩
theorem zW (hT:bp P T){o:Oper}{t:TypeId}{x:Operand}{lo hi mx:Option Operand}{ls:List Loc}{ws:List W}(ho:o.op=.slice t x lo hi mx)(h:(oL T ah n o.dst t x lo hi mx).Runs g ls (.ws ws)):dK P n o g ls ws:=by
 refine .inr (.inr (.inr ⟨oL T ah n o.dst t x lo hi mx,?_,h⟩));intro cx G g a w ls ws hn hS h K Q hk;subst hn;unfold oL at h;obtain⟨x0,ls1,_,h⟩:=aW hS h;cases x0 with
 | vn r j ver iv p lo m=>
   simp only at h;refine xr (ls:=ls1) ho hS ?_ hk;unfold sO at h ⊢;rcases hT.el t with e|⟨y,e,e2⟩
   ·rw[e]at h;exact h.elim
   ·rw[e]at h;rw[e2];exact h
 |_=>obtain⟨ls2,h2⟩:=zV h;exact oM ho hS (CL hT h2) hk
theorem Br (hT:bp P T){o:Oper}{t:TypeId}{x:Operand}{ls:List Loc}{ws:List W}(ho:o.op=.load t x)(h:(oJ T ah n o.dst t x).Runs g ls (.ws ws)):dK P n o g ls ws:=by
 refine .inr (.inr (.inr ⟨oJ T ah n o.dst t x,?_,h⟩));intro cx G g a w ls ws hn hS h K Q hk;subst hn;obtain⟨ls2,h2⟩:=Bq h;exact qE ho cx.n cx rfl G g a w _ ws hS (ED hT h2) K Q hk
theorem pX (hT:bp P T){o:Oper}{t:TypeId}{x i:Operand}{ls:List Loc}{ws:List W}(ho:o.op=.indexAddr t x i)(h:(fZ T ah n o.dst t x i).Runs g ls (.ws ws)):dK P n o g ls ws:=by
 refine .inr (.inr (.inr ⟨fZ T ah n o.dst t x i,?_,h⟩));intro cx G g a w ls ws hn hS h K Q hk;subst hn;unfold fZ at h;rcases hT.el t with e|⟨q,e,e2⟩
 ·simp only[e]at h;exact h.elim
 obtain⟨e0,ti,b⟩:=q;simp only[e]at h;obtain⟨x0,ls1,hx,h⟩:=aW hS h;cases x0 with
 | vw r j ver lo m=>
   simp only at h;obtain⟨ls3,_,h⟩:=h
   revert h;generalize hh:cN _ (g (.leaf r j))=q;intro h
   cases q with
   |none=>exact h.elim
   | some q=>
     obtain⟨v,s,m'⟩:=q;obtain⟨hv,es,e1,e3,e4,e5⟩:=px hh;simp only at h;split at h
     case isFalse=>exact h.elim
     rename_i hb;simp only[AI,beq_iff_eq]at hb;obtain⟨hver,hsz⟩:=hb;obtain⟨kd,idx,ls4,hi,h⟩:=cZ hS h;obtain⟨⟨h0,h1⟩,h⟩:=h;exact vY ho hS e2 hx hi (av.2 e1) (by rw[e3,hsz]) (by rw[<-hver,e4]) h0 h1 h hk
 |_=>exact iS ho hS (vX hT h) hk
theorem xg (hT:bp P T){o:Oper}{t t':TypeId}{s x:Operand}{ls:List Loc}{ws:List W}(ho:o.op=.call {callee:=.builtin .append,args:= #[s,x],argTypes:= #[t,t']})(h:(lI T ah n o.dst t t' s x).Runs g ls (.ws ws)):dK P n o g ls ws:=by
 refine .inr (.inr (.inr ⟨lI T ah n o.dst t t' s x,?_,h⟩));intro cx G g a w ls ws hn hS h K Q hk;subst hn;unfold lI at h;obtain⟨x0,ls1,_,h⟩:=aW hS h;cases x0 with
 | vn r j ver iv p lo m=>
   simp only at h;refine vS (ls:=ls1) ho hS ?_ hk
   revert h
   unfold oG;rcases hT.el t with e|⟨q,e,e2⟩
   ·simp only[e];exact fun h=>h.elim
   simp only[e,e2];intro h;obtain⟨e0,ti,b⟩:=q;refine cd (fun ls h=>?_) h;refine cr ?_ h;intro a ls h;cases a with
   | vn r j ver iv p lo m=>
     refine cC ?_ h;intro hv ls h
     revert h
     generalize hv.c=c;intro h;cases c with
     | own l=>cases l with
       | s sz es=>
         refine cd (fun ls h=>?_) h;refine cr ?_ h;intro b ls h;refine oC ?_ h;intro es2 src2 ls h;exact h
       |_=>exact h
     |_=>exact h
   |_=>exact h
 |_=>exact kY ho hS (zF hT h) hk
theorem zY (hT:bp P T){o:Oper}{t:TypeId}{x y:Operand}{ls:List Loc}{ws:List W}(ho:o.op=.store t x y)(hd:o.dst=none)(h:(v8 T ah t x y).Runs g ls (.ws ws)):dK P n o g ls ws:=by
 refine .inr (.inr (.inr ⟨ev y fun
  | .one (.vn _ _ _ _ _ _ _)=>oN iW jy (fun es lo m=>(es.drop lo).take m) wg (j3 P) t x y
  |_=>pZ P t x y,?_,?_⟩))
 ·intro cx G g a w ls ws hn hS h K Q hk;subst hn;obtain⟨x0,ls1,_,h⟩:=dr hS h;split at h
  ·exact xt ho hd hS h hk
  ·exact oO ho hd hS h hk
 ·unfold v8 at h;refine sB ?_ h;intro v ls h;split at h
  ·try simp only
   unfold oN at h ⊢;rcases hT.ty t with e|⟨z,e,e2⟩
   ·rw[e]at h;exact h.elim
   ·rw[e]at h;rw[e2];exact h
  ·rename_i hne
   first
    |exact v9 hT h
    | (split
       ·exact absurd rfl (hne _ _ _ _ _ _ _)
       ·exact v9 hT h)
theorem xo (hT:bp P T){o:Oper}{t:TypeId}{r:Option Operand}{ls:List Loc}{ws:List W}(ho:o.op=.makeMap t r)(h:(iT (lk T.mpL) n o.dst t r).Runs g ls (.ws ws)):dK P n o g ls ws:=by
 refine .inr (.inr (.inr ⟨iT (zd P) n o.dst t r,?_,?_⟩))
 ·intro cx G g a w ls ws hn hS h K Q hk;subst hn;exact vZ ho hS h hk
 ·unfold iT at h ⊢;rcases hT.mp t with e|⟨x,e,e2⟩
  ·cases r<;>simp[e,Rd.Runs]at h
  ·rw[e]at h;rw[e2];exact h
theorem Bu (hT:bp P T){o:Oper}{t:TypeId}{x:Operand}{ls:List Loc}{ws:List W}(ho:o.op=.range t x)(h:(pY (lk T.mpL) n o.dst t x).Runs g ls (.ws ws)):dK P n o g ls ws:=by
 refine .inr (.inr (.inr ⟨pY (zd P) n o.dst t x,?_,?_⟩))
 ·intro cx G g a w ls ws hn hS h K Q hk;subst hn;exact zU ho hS h hk
 ·unfold pY at h ⊢;rcases hT.mp t with e|⟨y,e,e2⟩
  ·simp[e,Rd.Runs]at h
  ·rw[e]at h;rw[e2];exact h
theorem Bn {o:Oper}{x:Operand}{ls:List Loc}{ws:List W}(ho:o.op=.entry x)(h:(vV n o.dst x).Runs g ls (.ws ws)):dK P n o g ls ws:=by
 refine .inr (.inr (.inr ⟨vV n o.dst x,?_,h⟩));intro cx G g a w ls ws hn hS h K Q hk;subst hn;exact zP ho hS h hk
theorem Bo (hT:bp P T){o:Oper}{t:TypeId}{x:Operand}{f:Nat}{ls:List Loc}{ws:List W}(ho:o.op=.field t x f)(h:(pV (lk T.cmL) n o.dst t x f).Runs g ls (.ws ws)):dK P n o g ls ws:=by
 refine .inr (.inr (.inr ⟨pV (Og P) n o.dst t x f,?_,?_⟩))
 ·intro cx G g a w ls ws hn hS h K Q hk;subst hn;exact zQ ho hS h hk
 ·unfold pV at h ⊢;rcases hT.cm t with e|⟨y,e,e2⟩
  ·rw[e]at h;exact h.elim
  ·rw[e]at h;rw[e2];exact h
theorem zS (hT:bp P T){o:Oper}{t:TypeId}{x i:Operand}{k:Bool}{ls:List Loc}{ws:List W}(ho:o.op=.lookup t x i k)(h:(lK mgbI ft (lk T.mpL) n o.dst t x i k).Runs g ls (.ws ws)):dK P n o g ls ws:=by
 refine .inr (.inr (.inr ⟨lK mgbI ft (zd P) n o.dst t x i k,?_,?_⟩))
 ·intro cx G g a w ls ws hn hS h K Q hk;subst hn;exact xj ho hS h hk
 ·unfold lK at h ⊢;rcases hT.mp t with e|⟨y,e,e2⟩
  ·cases k<;>simp[e,Rd.Runs]at h
  ·rw[e]at h;rw[e2];exact h
theorem zT (hT:bp P T){o:Oper}{t:TypeId}{m k v:Operand}{ls:List Loc}{ws:List W}(ho:o.op=.mapUpdate t m k v)(hd:o.dst=none)(h:(lL iV (lk T.mpL) t m k v).Runs g ls (.ws ws)):dK P n o g ls ws:=by
 refine .inr (.inr (.inr ⟨lL iV (zd P) t m k v,?_,?_⟩))
 ·intro cx G g a w ls ws hn hS h K Q hk;subst hn;exact xq ho hd hS h hk
 ·unfold lL at h ⊢;rcases hT.mp t with e|⟨y,e,e2⟩
  ·simp[e,Rd.Runs]at h
  ·rw[e]at h;rw[e2];exact h
theorem v5 (hT:bp P T){o:Oper}{t:TypeId}{m k:Operand}{ls:List Loc}{ws:List W}(ho:o.op=.mapEntry t m k)(h:(ga mgbI ft iV (lk T.mpL) n o.dst t m k).Runs g ls (.ws ws)):dK P n o g ls ws:=by
 refine .inr (.inr (.inr ⟨ga mgbI ft iV (zd P) n o.dst t m k,?_,?_⟩))
 ·intro cx G g a w ls ws hn hS h K Q hk;subst hn;exact sr ho hS h hk
 ·unfold ga at h ⊢;rcases hT.mp t with e|⟨y,e,e2⟩
  ·simp[e,Rd.Runs]at h
  ·rw[e]at h;rw[e2];exact h
theorem pU (hT:bp P T){o:Oper}{t:TypeId}{m s x:Operand}{ls:List Loc}{ws:List W}(ho:o.op=.entryStore t m s x)(hd:o.dst=none)(h:(eL iV (lk T.mpL) t m s x).Runs g ls (.ws ws)):dK P n o g ls ws:=by
 refine .inr (.inr (.inr ⟨eL iV (zd P) t m s x,?_,?_⟩))
 ·intro cx G g a w ls ws hn hS h K Q hk;subst hn;exact oI ho hd hS h hk
 ·unfold eL at h ⊢;rcases hT.mp t with e|⟨y,e,e2⟩
  ·simp[e,Rd.Runs]at h
  ·rw[e]at h;rw[e2];exact h
theorem Gr (b:Bool):RR ah b=pz b:=by
 funext vs
 match vs with
 |[]=>rfl
 |[x]=>cases x<;>rfl
 | [x,y]=>
   cases x<;>cases y<;>first|rfl|skip
   rename_i k a k' b';simp only[RR,pz];by_cases e:k=k'
   ·subst e;simp only[beq_self_eq_true,if_true];rfl
   ·simp[e]
 |x::y::z::vs=>cases x<;>cases y<;>rfl
theorem Hp (hT:bp P T){ct:D8}(hct:xu P ct){o:Oper}{ls:List Loc}{ws:List W}(h:(j5 T ah ct n o).Runs g ls (.ws ws)):dK P n o g ls ws:=by
 by_cases hc:∃ c f,o.op=.call c/\c.callee=.value (.func f)
 ·obtain⟨c,f,e1,e2⟩:=hc;unfold j5 at h;simp only[e1,e2]at h;cases hnw:ct.nw f with
  | some mk=>
    simp only[hnw]at h;exact h.elim
  |none=>
  simp only[hnw]at h;cases htk:ct.tk f with
  | some mk=>
    simp only[htk]at h;exact h.elim
  |none=>
  simp only[htk]at h;cases hpt:ct.pt f with
  | some mk=>
    simp only[hpt]at h;exact Bj hT (by unfold fO;simp only[e1,e2]) (hct.2.2.1 f mk hpt) h
  |none=>
  simp only[hpt]at h;cases hmu:ct.mu f with
  | none=>
    simp only[hmu]at h;exact CJ hT hct (by unfold fO;simp only[e1,e2]) h
  | some mk=>
    simp only[hmu]at h;exact Bi hT (by unfold fO;simp only[e1,e2]) (hct.2.1 f mk hmu) h
 by_cases hc2:∃ c t,o.op=.call c/\c.callee=.value (.tmp t)
 ·obtain⟨c,t,e1,e2⟩:=hc2;unfold j5 at h;simp only[e1,e2]at h;exact Bl hT hct (by rw[e1];obtain⟨cal,as,ats⟩:=c;simp only at e2;rw[e2]) h
 by_cases hsl:∃ t x lo hi mx,o.op=.slice t x lo hi mx
 ·obtain⟨t,x,lo,hi,mx,e1⟩:=hsl;unfold j5 at h;simp only[e1]at h;exact zW hT e1 h
 by_cases hst:∃ t x y,o.op=.store t x y
 ·obtain⟨t,x,y,e1⟩:=hst;unfold j5 at h;simp only[e1]at h;split at h
  ·rename_i hd;exact zY hT e1 hd h
  ·exact h.elim
 by_cases hix:∃ t x i,o.op=.indexAddr t x i
 ·obtain⟨t,x,i,e1⟩:=hix;unfold j5 at h;simp only[e1]at h;exact pX hT e1 h
 by_cases hap:∃ s x t t',o.op=.call {callee:=.builtin .append,args:= #[s,x],argTypes:= #[t,t']}
 ·obtain⟨s,x,t,t',e1⟩:=hap;unfold j5 at h;simp only[e1]at h;exact xg hT e1 h
 by_cases hld:∃ t x,o.op=.load t x
 ·obtain⟨t,x,e1⟩:=hld;unfold j5 at h;simp only[e1]at h;exact Br hT e1 h
 by_cases hmk:∃ t r,o.op=.makeMap t r
 ·obtain⟨t,r,e1⟩:=hmk;unfold j5 at h;simp only[e1]at h;exact xo hT e1 h
 by_cases hfi:∃ t x f,o.op=.field t x f
 ·obtain⟨t,x,f,e1⟩:=hfi;unfold j5 at h;simp only[e1]at h;exact Bo hT e1 h
 by_cases hrg:∃ t x,o.op=.range t x
 ·obtain⟨t,x,e1⟩:=hrg;unfold j5 at h;simp only[e1]at h;exact Bu hT e1 h
 by_cases hen:∃ x,o.op=.entry x
 ·obtain⟨x,e1⟩:=hen;unfold j5 at h;simp only[e1]at h;exact Bn e1 h
 by_cases hlo:∃ t x i k,o.op=.lookup t x i k
 ·obtain⟨t,x,i,k,e1⟩:=hlo;unfold j5 at h;simp only[e1]at h;exact zS hT e1 h
 by_cases hme:∃ t m k,o.op=.mapEntry t m k
 ·obtain⟨t,m,k,e1⟩:=hme;unfold j5 at h;simp only[e1]at h;exact v5 hT e1 h
 by_cases hes:∃ t m s x,o.op=.entryStore t m s x
 ·obtain⟨t,m,s,x,e1⟩:=hes;unfold j5 at h;simp only[e1]at h;split at h
  ·rename_i hd;exact pU hT e1 hd h
  ·exact h.elim
 by_cases hup:∃ t m k v,o.op=.mapUpdate t m k v
 ·obtain⟨t,m,k,v,e1⟩:=hup;unfold j5 at h;simp only[e1]at h;split at h
  ·rename_i hd;exact zT hT e1 hd h
  ·exact h.elim
 ·refine .inl ⟨?_,?_⟩
  ·unfold fO;split
   ·rename_i c e1;split
    ·rename_i f e2;exact absurd ⟨c,f,e1,e2⟩ hc
    ·rfl
   ·rfl
  ·unfold j5 at h;unfold NV;generalize hop:o.op=op at h hc hc2 hmk hfi hrg hen hlo hme hes hup hsl hst hld hix hap ⊢;cases op with
   |makeMap t r=>exact absurd ⟨t,r,rfl⟩ hmk
   |field t x f=>exact absurd ⟨t,x,f,rfl⟩ hfi
   |range t x=>exact absurd ⟨t,x,rfl⟩ hrg
   |entry x=>exact absurd ⟨x,rfl⟩ hen
   |lookup t x i k=>exact absurd ⟨t,x,i,k,rfl⟩ hlo
   |mapUpdate t m k v=>exact absurd ⟨t,m,k,v,rfl⟩ hup
   |mapEntry t m k=>exact absurd ⟨t,m,k,rfl⟩ hme
   |entryStore t m s x=>exact absurd ⟨t,m,s,x,rfl⟩ hes
   | call c=>
     simp only at h ⊢;cases hcal:c.callee with
     | value x=>
       cases x with
       |func f=>exact absurd ⟨c,f,rfl,hcal⟩ hc
       |tmp t=>exact absurd ⟨c,t,rfl,hcal⟩ hc2
       |_=>simp only[hcal]at h;exact h.elim
     | builtin b=>
       simp only[hcal]at h ⊢;cases b with
       | len=>
         simp only at h ⊢;split at h
         ·rename_i x t e1 e2;simp only[e1,e2];rcases hT.sl t with e|⟨_,e,e3⟩
          ·simp[e,Rd.Runs]at h
          simp only[e,e3,Yy,if_true]at h ⊢;refine cr ?_ h;intro a ls h;exact F3 h
         ·exact h.elim
       | append=>
         simp only at h ⊢;split at h
         ·rename_i s x t t' e1 e2;exfalso;refine hap ⟨s,x,t,t',?_⟩;rw[<-hcal, <-Al e1, <-yd e2]
         ·exact h.elim
       |min=>simp only[Gr]at h ⊢;exact h
       |max=>simp only[Gr]at h ⊢;exact h
       |_=>exact h
     |_=>simp only[hcal]at h;exact h.elim
   |box t x=>exact Hn hT h
   |alloc t=>exact CB hT h
   |build t parts=>exact CF hT h
   |fieldAddr s x f=>exact vW hT h
   |buildSlice t len parts=>exact sq hT h
   |load t x=>exact absurd ⟨t,x,rfl⟩ hld
   |store t x y=>exact absurd ⟨t,x,y,rfl⟩ hst
   |indexAddr t x i=>exact absurd ⟨t,x,i,rfl⟩ hix
   |binOp op t x y t'=>exact Hk hT h
   |unOp op t x=>exact Jf h
   |makeSlice t l c=>exact EE hT h
   |slice t x lo hi mx=>exact absurd ⟨t,x,lo,hi,mx,rfl⟩ hsl
   |assign x=>exact h
   |pick c a b=>exact h
   | convert s t x=>
     simp only at h ⊢;refine mh ?_ h;intro _ a ls h;rcases hT.it s with e|⟨k1,e,e3⟩
     ·simp[e,Rd.Runs]at h
     rcases hT.it t with f|⟨k2,f,f3⟩
     ·simp[e,f,Rd.Runs]at h
     simp only[e,e3,f,f3]at h ⊢;exact h
   |_=>exact h
end
end Go.V
namespace Go.V
def Fa (b:Bool)(A B:Unit->Prop):Prop:=(ZA (motive:=fun _=>Unit->Prop) B A b:Unit->Prop) ()
theorem bi {b:Bool}{A B:Unit->Prop}(h1:b=true->A ())(h2:b=false->B ()):(ZA (motive:=fun _=>Unit->Prop) B A b:Unit->Prop) ():=by
 cases b with
 |true=>exact h1 rfl
 |false=>exact h2 rfl
def Rd.wpU {α:Type}(g:Gm):Rd α->List Loc->(List Loc->α->Prop)->Prop
 | .fail,_,_=>False
 | .ret a,t,K=>K t a
 | .get l k,t,K=>(k (g l)).wpU g (l::t) K
 | .req c k,t,K=>c/\k.wpU g t K
 | .br b k1 k2,t,K=>Fa b (fun _=>k1.wpU g t K) (fun _=>k2.wpU g t K)
 | .peek r j ln k,t,K=>(k (cN ln (g (.leaf r j)))).wpU g (.hd r j::t) K
theorem Rd.wpU_runs {α:Type}{g:Gm}:∀ {rd:Rd α} {t:List Loc} {K:List Loc->α->Prop},rd.wpU g t K->∃ ls x t',rd.Runs g ls x/\K t' x/\(∀ l∈ls,l∈t')/\(∀ l∈t,l∈t')
 | .fail,_,_,h=>h.elim
 | .ret b,t,_,h=>⟨[],b,t,⟨rfl,rfl⟩,h,by simp,fun _ h=>h⟩
 | .get l k,t,_,h=>by
   obtain⟨ls,x,t',h1,h2,h3,h4⟩:=Rd.wpU_runs (rd:=k (g l)) h;refine⟨l::ls,x,t',⟨ls,rfl,h1⟩,h2,?_,fun y hy=>h4 y (by simp[hy])⟩;intro y hy;rcases VN.1 hy with rfl|hy
   ·exact h4 _ (by simp)
   ·exact h3 _ hy
 | .req c k,t,_,h=>by
   obtain⟨ls,x,t',h1,h2,h3⟩:=Rd.wpU_runs (rd:=k) h.2;exact⟨ls,x,t',⟨h.1,h1⟩,h2,h3⟩
 | .br b k1 k2,t,_,h=>by
   cases b with
   |true=>obtain⟨ls,x,t',h1,h2⟩:=Rd.wpU_runs (rd:=k1) h;exact⟨ls,x,t',.inl ⟨rfl,h1⟩,h2⟩
   |false=>obtain⟨ls,x,t',h1,h2⟩:=Rd.wpU_runs (rd:=k2) h;exact⟨ls,x,t',.inr ⟨rfl,h1⟩,h2⟩
 | .peek r j ln k,t,K,h=>by
   obtain⟨ls,x,t',h1,h2,h3,h4⟩:=Rd.wpU_runs (rd:=k (cN ln (g (.leaf r j)))) h;refine⟨.hd r j::ls,x,t',⟨ls,rfl,h1⟩,h2,?_,fun y hy=>h4 y (by simp[hy])⟩;intro y hy;rcases VN.1 hy with rfl|hy
   ·exact h4 _ (by simp)
   ·exact h3 _ hy
def xT :Ln:=⟨List.length,fun _ _ h=>h⟩
theorem Fy {ln:Ln}{x y:Option Val}(h:cN xT x=cN xT y):cN ln x=cN ln y:=by
 unfold cN at h ⊢
 repeat' split at h
 all_goals first|(cases h;done)|rfl|(simp only[Wn,Yd]at h;obtain⟨h1,h2,h3⟩:=h;simp only[*];rw[ln.ok _ _ h3])|(simp only[*])
def same (g g':Gm):Loc->Prop
 | .hd r j=>g' (.hd r j)=g (.hd r j)/\cN xT (g' (.leaf r j))=cN xT (g (.leaf r j))
 |l=>g' l=g l
theorem same.get {g g':Gm}{l:Loc}(h:same g g' l):g' l=g l:=by
 cases l<;>first|exact h|exact h.1
theorem Rd.Runs_congr {α:Type}{g g':Gm}:∀ {rd:Rd α} {ls:List Loc} {x:α},rd.Runs g ls x->(∀ l∈ls,same g g' l)->rd.Runs g' ls x
 | .fail,_,_,h,_=>h
 | .ret b,_,_,h,_=>h
 | .get l k,_,_,h,hg=>by
   obtain⟨ls',e,h⟩:=h;subst e;refine⟨ls',rfl,?_⟩;rw[(hg l (by simp)).get];exact Rd.Runs_congr h (fun y hy=>hg y (by simp[hy]))
 | .req c k,_,_,h,hg=>⟨h.1,Rd.Runs_congr h.2 hg⟩
 | .br b k1 k2,_,_,h,hg=>by
   rcases h with⟨e,h⟩|⟨e,h⟩
   ·exact .inl ⟨e,Rd.Runs_congr h hg⟩
   ·exact .inr ⟨e,Rd.Runs_congr h hg⟩
 | .peek r j ln k,_,_,h,hg=>by
   obtain⟨ls',e,h⟩:=h;subst e;refine⟨ls',rfl,?_⟩;have e:=hg (.hd r j) (by simp);rw[Fy (ln:=ln) e.2];exact Rd.Runs_congr h (fun y hy=>hg y (by simp[hy]))
def D4 (n:Nat)(o:Oper)(ws:List W):Prop:=
 match o.dst with
 |some d=>d<n/\ws=[.reg d (.one (.v undef))]
 |none=>ws=[]
def yj (P:Program)(n:Nat)(all:Array Oper)(o:Oper)(g:Gm)(t:List Loc)(ws:List W):Prop:=
 ∃ ls b,(uT all o).Runs g ls b/\(∀ l∈ls,l∈t)/\
  ((b=true/\∃ ls2,dK P n o g ls2 ws/\∀ l∈ls2,l∈t)\/(b=false/\D4 n o ws))
theorem dK.congr {P:Program}{n:Nat}{o:Oper}{g g':Gm}{ls:List Loc}{ws:List W}(h:dK P n o g ls ws)(hg:∀ l∈ls,same g g' l):dK P n o g' ls ws:=by
 rcases h with⟨h1,h2⟩|⟨f,ts,args,ds,mk,res,h1,h2,h3,h4⟩|⟨f,ts,args,mk,h1,h2,h3⟩|⟨rd,h1,h2⟩
 ·exact .inl ⟨h1,Rd.Runs_congr h2 hg⟩
 ·exact .inr (.inl ⟨f,ts,args,ds,mk,res,h1,Rd.Runs_congr h2 hg,h3,h4⟩)
 ·exact .inr (.inr (.inl ⟨f,ts,args,mk,h1,h2,Rd.Runs_congr h3 hg⟩))
 ·exact .inr (.inr (.inr ⟨rd,h1,Rd.Runs_congr h2 hg⟩))
theorem yj.congr {P:Program}{n:Nat}{all:Array Oper}{o:Oper}{g g':Gm}{t:List Loc}{ws:List W}(h:yj P n all o g t ws)(hg:∀ l∈t,same g g' l):yj P n all o g' t ws:=by
 obtain⟨ls,b,h1,h2,h3⟩:=h;refine⟨ls,b,Rd.Runs_congr h1 (fun l hl=>hg l (h2 l hl)),h2,?_⟩;rcases h3 with⟨e,ls2,h4,h5⟩|h3
 ·exact .inl ⟨e,ls2,h4.congr (fun l hl=>hg l (h5 l hl)),h5⟩
 ·exact .inr h3
section
variable {P : Program} {cx : Cx} {a : Act} {w : World}
theorem dK.sound {o:Oper}{g:Gm}{ls:List Loc}{ws:List W}(h:dK P cx.n o g ls ws)(hS:de cx g a w){K:Act->World->Prop}{Q:Exit->Act->World->Prop} 
 (hk:∀ a' w',de cx (aS g ws) a' w'->K a' w'):o.wp P a w K Q:=by
 obtain⟨G,hS⟩:=hS;rcases h with⟨_,h2⟩|⟨f,ts,args,ds,mk,res,h1,h2,h3,rfl⟩|⟨f,ts,args,mk,h1,h2,h3⟩|⟨rd,h1,h2⟩
 ·exact EG hS h2 hk
 ·exact Bm (kw h1) hS h2 h3 hk
 ·exact zM (kw h1) hS h3 h2 hk
 ·exact h1 cx G g a w _ _ rfl hS h2 K Q hk
theorem yj.sound {all:Array Oper}{o:Oper}{g:Gm}{t:List Loc}{ws:List W}(h:yj P cx.n all o g t ws)(hS:de cx g a w){K:Act->World->Prop}{Q:Exit->Act->World->Prop} 
 (hk:∀ a' w',de cx (aS g ws) a' w'->K a' w'):
 if Region.wanted o (yielded all a.tmps)then o.wp P a w K Q\/(o.asks P a w/\LetsOut Q)else K (a.put o.dst undef) w:=by
 obtain⟨ls,b,h1,_,h3⟩:=h;obtain⟨G,hG⟩:=id hS;have hw:=yP hG h1;rcases h3 with⟨rfl,ls2,h4,_⟩|⟨rfl,h3⟩
 ·rw[if_pos hw];exact .inl (h4.sound hS hk)
 ·rw[if_neg (by rw[hw];simp)];unfold D4 at h3;cases hd:o.dst with
  | none=>
    simp only[hd]at h3;subst h3;exact hk _ _ (by simpa[YZ,aS]using hS)
  | some d=>
    simp only[hd]at h3;obtain⟨hlt,rfl⟩:=h3;refine hk _ _ ⟨G,?_⟩;exact hG.put hlt (by simp[cg,eZ])
end
inductive WK where
 |reg (d:Nat)
 |leaf (r j:Nat)
 |root (r:Nat)
 |gap (r j:Nat)
def keyOf :W->WK
 | .reg d _=>.reg d
 | .leaf r j _=>.leaf r j
 | .root r _ _=>.root r
 | .gap r j _=>.gap r j
def WK.hits :WK->Loc->Bool
 | .reg d,.reg d'=>d.beq d'
 | .leaf r j,.leaf r' j'=>r.beq r'&&j.beq j'
 | .gap r j,.leaf r' j'=>r.beq r'&&j.beq j'
 | .root r,.leaf r' _=>r.beq r'
 | .root r,.meta_ r'=>r.beq r'
 |_,_=>false
def WK.hitR :WK->Loc->Bool
 | .leaf r j,.hd r' j'=>r.beq r'&&j.beq j'
 | .root r,.hd r' _=>r.beq r'
 |k,l=>k.hits l
def ca (ws:List W)(l:Loc):Bool:=ws.any fun x=>(keyOf x).hits l
def dJ (ws:List W)(l:Loc):Bool:=ws.any fun x=>(keyOf x).hitR l
theorem ff {g:Gm}{x:W}{l:Loc}(h:(keyOf x).hits l=false):x.app g l=g l:=by
 cases x<;>cases l<;>simp only[keyOf,WK.hits,W.app]at h ⊢ <;>first|rfl|(rw[if_neg];intro e;cases e;simp at h)|(rw[if_neg];intro e;subst e;simp at h)
theorem CP {g g':Gm}{x:W}{l:Loc}(h:(keyOf x).hits l=true):x.app g l=x.app g' l:=by
 cases x<;>cases l<;>simp_all [keyOf,WK.hits,W.app]
theorem iX {l:Loc}:∀ {ws:List W} {g:Gm},ca ws l=false->aS g ws l=g l
 |[],_,_=>rfl
 | x::ws,g,h=>by
   simp only[ca,Xr,W2]at h;simp only[aS];rw[iX (ws:=ws) h.2,ff h.1]
theorem yn {l:Loc}:∀ {ws:List W} {g g':Gm},g l=g' l->aS g ws l=aS g' ws l
 |[],_,_,h=>h
 | x::ws,g,g',h=>by
   simp only[aS];refine yn (ws:=ws) ?_;cases hx:(keyOf x).hits l with
   |true=>exact CP hx
   |false=>rw[ff hx,ff hx,h]
theorem mL {l:Loc}:∀ {ws:List W} {g g':Gm},ca ws l=true->aS g ws l=aS g' ws l
 |[],_,_,h=>by simp[ca]at h
 | x::ws,g,g',h=>by
   simp only[ca,Xr,Wo]at h;simp only[aS];cases hx:(keyOf x).hits l with
   |true=>exact yn (CP hx)
   | false=>
     rw[hx]at h;exact mL (h.resolve_left (by simp))
def jN (g:Gm)(ws:List W):Prop:=∀ r j,dJ ws (.hd r j)=false->cN xT (aS g ws (.leaf r j))=cN xT (g (.leaf r j))
def Ay (O:yl)(g:Gm):List W->Prop->Prop
 |[],K=>K
 | .gap r j x::ws,K=>match x.c with
   | .own (.s sz es)=>match g (.leaf r j)with
     | some (.h y)=>match y.c with
       | .own (.s sz' es')=>match x.ver.beq y.ver&&sz.beq sz' with
         |true=>O.pr (fun _=>es.length=es'.length)/\Ay O g ws K
         |false=>False
       |_=>False
     |_=>False
   |_=>False
 |_::ws,K=>Ay O g ws K
theorem uK {g:Gm}{K:Prop}:∀ {ws:List W},Ay ah g ws K->K
 |[],h=>h
 | .reg _ _::ws,h=>uK (ws:=ws) h
 | .leaf _ _ _::ws,h=>uK (ws:=ws) h
 | .root _ _ _::ws,h=>uK (ws:=ws) h
 | .gap r j x::ws,h=>by
   simp only[Ay]at h
   repeat' split at h
   all_goals first|exact h.elim|exact uK h.2
theorem nO {g:Gm}{K:Prop}{r j:Nat}:∀ {ws:List W} {g':Gm},Ay ah g ws K->cN xT (g' (.leaf r j))=cN xT (g (.leaf r j))->dJ ws (.hd r j)=false->cN xT (aS g' ws (.leaf r j))=cN xT (g (.leaf r j))
 |[],_,_,h,_=>h
 | .reg d x::ws,g',h,e,ht=>by
   simp only[dJ,Xr,W2]at ht;refine nO (ws:=ws) h ?_ ht.2;rw[ff (by rfl)];exact e
 | .leaf r' j' x::ws,g',h,e,ht=>by
   simp only[dJ,Xr,W2]at ht;refine nO (ws:=ws) h ?_ ht.2;rw[ff (by simpa[keyOf,WK.hits,WK.hitR]using ht.1)];exact e
 | .root r' b hs::ws,g',h,e,ht=>by
   simp only[dJ,Xr,W2]at ht;refine nO (ws:=ws) h ?_ ht.2;rw[ff (by simpa[keyOf,WK.hits,WK.hitR]using ht.1)];exact e
 | .gap r' j' x::ws,g',h,e,ht=>by
   simp only[dJ,Xr,W2]at ht;have h':=h;simp only[Ay]at h'
   repeat' split at h'
   all_goals first|exact h'.elim|skip
   rename_i sz es hx _ y hy _ sz' es' hc _ hb;refine nO (ws:=ws) h'.2 ?_ ht.2;by_cases q:r=r'/\j=j'
   ·obtain⟨rfl,rfl⟩:=q;have h3:es.length=es'.length:=h'.1;simp only[AI]at hb;have b1:=V0 hb.1;have b2:=V0 hb.2;simp only[W.app,if_true,cN,hx,hy,hc,xT,b1,b2,h3]
   ·rw[ff (by
     simp only[keyOf,WK.hits];cases c1:WR r' r with
     |false=>rfl
     | true=>
       cases c2:WR j' j with
       |false=>rfl
       |true=>exact absurd ⟨(V0 c1).symm,(V0 c2).symm⟩ q)]
    exact e
theorem jN.of {g:Gm}{ws:List W}{K:Prop}(h:Ay ah g ws K):jN g ws:=fun _ _ ht=>nO h rfl ht
theorem jN.reg {g:Gm}{d:Nat}{x:R}:jN g [.reg d x]:=jN.of (K:=True) trivial
theorem jN.nil {g:Gm}:jN g []:=jN.of (K:=True) trivial
abbrev Tr :=List (List Loc×List WK)
def BS (all:Array Oper)(o:Oper)(σ:VS)(K:VS->List Loc->Bool->Prop):Prop:=
 match o.guard with
 |none=>K σ [] true
 | some (j,want)=>match all[j]? with
   | some o'=>match o'.dst with
     | some d=>match get σ (.reg d)with
       |some (.r (.one (.v (.bool b))))=>Fa b (fun _=>K (.reg d (.k true)::σ) [.reg d] (true==want)) (fun _=>K (.reg d (.k false)::σ) [.reg d] (false==want))
       |some (.r (.one (.v (.tuple _))))=>K σ [.reg d] false
       |_=>False
     |none=>False
   |none=>False
section
variable (T : wd) (O : yl) (ct : D8) (n : Nat)
def yg (all:Array Oper):List Oper->VS->Tr->(VS->Tr->Prop)->Prop
 |[],σ,acc,K=>K σ acc
 | o::rest,σ,acc,K=>BS all o σ fun σ t b=>match b with
   | true=>(j5 T O ct n o).wpU (get σ) t fun t out=>match out with
     | .ws ws=>Ay O (get σ) ws (yg all rest (push σ ws) ((t,ws.map keyOf)::acc) K)
     | .call _ _ _=>False
   | false=>match o.dst with
     |some d=>if d<n then yg all rest (.reg d (.one (.v undef))::σ) ((t,[.reg d])::acc) K else False
     |none=>yg all rest σ ((t,[])::acc) K
end
inductive EI (P:Program)(n:Nat)(all:Array Oper):List Oper->Gm->List (List Loc×List W)->Gm->Prop where
 |nil (g:Gm):EI P n all [] g [] g
 |cons {o:Oper} {rest:List Oper} {g g':Gm} {t:List Loc} {ws:List W} {xs:List (List Loc×List W)}:yj P n all o g t ws->jN g ws->EI P n all rest (aS g ws) xs g'->EI P n all (o::rest) g ((t,ws)::xs) g'
theorem AB {σ:VS}{d:Nat}{x:R}(h:get σ (.reg d)=some (.r x)):get (.reg d x::σ)=get σ:=by
 funext l
 simp only[get,W.app];split
 ·rename_i e;rw[e,h]
 ·rfl
theorem AC {all:Array Oper}{o:Oper}{σ:VS}{K:VS->List Loc->Bool->Prop}(h:BS all o σ K):
 ∃ σ1 t b,get σ1=get σ/\(uT all o).Runs (get σ) t b/\K σ1 t b:=by
 unfold BS at h;unfold uT;cases hg:o.guard with
 |none=>simp only[hg]at h;exact⟨σ,[],true,rfl,⟨rfl,rfl⟩,h⟩
 | some jw=>
   obtain⟨j,want⟩:=jw;simp only[hg]at h ⊢;cases ho:all[j]? with
   |none=>simp[ho]at h
   | some o'=>
     simp only[ho,W7]at h ⊢;cases hd:o'.dst with
     |none=>simp[hd]at h
     | some d=>
       simp only[hd]at h ⊢;cases hx:get σ (.reg d)with
       |none=>simp[hx]at h
       | some v=>
         cases v with
         |h x=>simp[hx]at h
         |m a b=>simp[hx]at h
         | r x=>cases x with
           |agg as=>simp[hx]at h
           |tup rs=>simp[hx]at h
           | one a=>cases a with
             | v y=>cases y with
               | bool b=>
                 simp only[hx]at h;cases b with
                 |true=>exact⟨_,_,_,AB hx,by simp[AX,rd,Rd.Runs,hx],h⟩
                 |false=>exact⟨_,_,_,AB hx,by simp[AX,rd,Rd.Runs,hx],h⟩
               | tuple vs=>
                 simp only[hx]at h;exact⟨σ,_,_,rfl,by simp[AX,rd,Rd.Runs,hx],h⟩
               |_=>simp[hx]at h
             |_=>simp[hx]at h
theorem lM {P:Program}{T:wd}(hT:bp P T){ct:D8}(hct:xu P ct){n:Nat}{all:Array Oper}:∀ (ops:List Oper) (σ:VS) (acc:Tr) (K:VS->Tr->Prop),yg T ah ct n all ops σ acc K->
 ∃ xs σ',EI P n all ops (get σ) xs (get σ')/\K σ' ((xs.map fun x=>(x.1,x.2.map keyOf)).reverse++acc)
 |[],σ,acc,K,h=>⟨[],σ,.nil _,h⟩
 | o::rest,σ,acc,K,h=>by
   simp only[yg]at h;obtain⟨σ1,t,b,e1,h1,h2⟩:=AC h;cases b with
   | true=>
     simp only at h2;obtain⟨ls2,out,t2,k1,k2,k3,k4⟩:=Rd.wpU_runs h2;cases out with
     |call f ds mk=>exact k2.elim
     | ws ws=>
       simp only at k2;have k5:=jN.of k2;obtain⟨xs,σ',m1,m2⟩:=lM hT hct rest _ _ _ (uK k2);rw[uN]at m1;rw[e1]at m1 k1 k5;refine⟨(t2,ws)::xs,σ',.cons ⟨t,true,h1,fun l hl=>k4 l hl,.inl ⟨rfl,ls2,Hp hT hct k1,k3⟩⟩ k5 m1,?_⟩
       simpa using m2
   | false=>
     simp only at h2;cases hd:o.dst with
     | none=>
       simp only[hd]at h2;obtain⟨xs,σ',m1,m2⟩:=lM hT hct rest _ _ _ h2;rw[e1]at m1;refine⟨(t,[])::xs,σ',.cons ⟨t,false,h1,fun l hl=>hl,.inr ⟨rfl,by simp[D4,hd]⟩⟩ .nil m1,?_⟩
       simpa using m2
     | some d=>
       simp only[hd]at h2;split at h2
       ·rename_i hlt;obtain⟨xs,σ',m1,m2⟩:=lM hT hct rest _ _ _ h2;have e2:get (W.reg d (.one (.v undef))::σ1)=aS (get σ) [W.reg d (.one (.v undef))]:=by
         simp only[get,aS,e1]
        rw[e2]at m1;refine⟨(t,[.reg d (.one (.v undef))])::xs,σ',.cons ⟨t,false,h1,fun l hl=>hl,.inr ⟨rfl,by simp[D4,hd,hlt]⟩⟩ .reg m1,?_⟩
        simpa[keyOf]using m2
       ·exact h2.elim
theorem EI.text {P:Program}{cx:Cx}{all:Array Oper}{Q:Exit->Act->World->Prop}:∀ {ops:List Oper} {g g':Gm} {xs:List (List Loc×List W)} {a:Act} {w:World},EI P cx.n all ops g xs g'->de cx g a w->
 (∀ a' w',de cx g' a' w'->Q .normal a' w')->wpList P all Q ops a w
 |_,_,_,_,a,w,.nil g,hS,hk=>hk a w hS
 | _,_,_,_,a,w,.cons he _ hr,hS,hk=>by
   simp only[wpList];exact he.sound hS (fun a' w' hs=>hr.text hs hk)
end Go.V
namespace Go.V
def WK.clash :WK->WK->Bool
 | .reg d,.reg d'=>d.beq d'
 | .leaf r j,.leaf r' j'=>r.beq r'&&j.beq j'
 | .root r,.leaf r' _=>r.beq r'
 | .leaf r _,.root r'=>r.beq r'
 | .root r,.root r'=>r.beq r'
 | .gap r j,.gap r' j'=>r.beq r'&&j.beq j'
 | .gap r j,.leaf r' j'=>r.beq r'&&j.beq j'
 | .leaf r j,.gap r' j'=>r.beq r'&&j.beq j'
 | .root r,.gap r' _=>r.beq r'
 | .gap r _,.root r'=>r.beq r'
 |_,_=>false
theorem Ao {k k':WK}{l:Loc}(h:k.hits l=true)(h':k'.hits l=true):k.clash k'=true:=by
 cases k<;>cases k'<;>cases l<;>simp_all [WK.hits,WK.clash]
def sel (bE:Nat->List W)(p:Nat->Bool)(m:Nat):List W:=((VW m).filter p).flatMap bE
theorem k8 (bE:Nat->List W)(l:Loc):∀ (is:List Nat) (g:Gm),aS g (is.flatMap bE) l=aS g ((is.filter fun i=>ca (bE i) l).flatMap bE) l
 |[],g=>rfl
 | i::is,g=>by
   simp only[WS,List.filter_cons,bV];cases h:ca (bE i) l with
   |true=>simp only[if_true,WS,bV];exact k8 bE l is _
   | false=>
     simp only[WH,if_false];rw[<-k8 bE l is g];exact yn (iX h)
theorem lE {bE:Nat->List W}{p q:Nat->Bool}{m:Nat}{l:Loc}{g:Gm}(h:∀ i,i<m->ca (bE i) l=true->p i=q i):aS g (sel bE p m) l=aS g (sel bE q m) l:=by
 unfold sel;rw[k8,k8 bE l ((VW m).filter q)];have e:((VW m).filter p).filter (fun i=>ca (bE i) l)=((VW m).filter q).filter (fun i=>ca (bE i) l):=by
  rw[XW,XW];refine Xm ?_;intro i hi;rw[WN]at hi;cases ht:ca (bE i) l with
  |true=>simp[h i hi ht]
  |false=>simp
 rw[e]
theorem G6 {bE:Nat->List W}{q:Nat->Bool}{m j:Nat}{l:Loc}{g g':Gm}(hj:j<m)(hq:q j=true)(ht:ca (bE j) l=true)(h:∀ i,j<i->i<m->ca (bE i) l=true->q i=false):
 aS g (sel bE q m) l=aS g' (bE j) l:=by
 have e:aS g (sel bE q m) l=aS g (sel bE (fun i=>q i&&decide (i<=j)) m) l:=by
  refine lE ?_;intro i hi hti;rcases WM j i with c|c
  ·rw[h i c hi hti];rfl
  ·simp[c]
 rw[e];have hs:(VW m).filter (fun i=>q i&&decide (i<=j))=((VW j).filter q)++[j]:=by
  have:VW m=VW j++[j]++(VW (m- (j+1))).map (fun x=>(j+1)+x):=by
   have e1:VW (j+1+(m- (j+1)))=VW (j+1)++(VW (m- (j+1))).map (fun x=>(j+1)+x):=Y7;rw[show j+1+(m- (j+1))=m from by omega]at e1;rw[e1,Ye]
  rw[this,Xu,Xu];have e2:(List.map (fun x=>j+1+x) (VW (m- (j+1)))).filter (fun i=>q i&&decide (i<=j))=[]:=by
   rw[Xn];intro a ha;obtain⟨x,_,rfl⟩:=Wu.1 ha;simp;intro _;omega
  have e3:(VW j).filter (fun i=>q i&&decide (i<=j))=(VW j).filter q:=by
   refine Xm ?_;intro i hi;rw[WN]at hi;simp[Nat.le_of_lt hi]
  rw[e2,e3];simp[hq]
 unfold sel;rw[hs,Xs,bV];simp only[WS,List.flatMap_nil,WU];exact mL ht
theorem A4 {bE:Nat->List W}{p:Nat->Bool}{m:Nat}{g:Gm}:aS g (sel bE p (m+1))=aS (aS g (sel bE p m)) (if p m=true then bE m else[]):=by
 unfold sel;rw[Ye,Xu,Xs,bV];cases h:p m<;>simp[h]
theorem Be {ws:List W}{r j:Nat}(h:dJ ws (.hd r j)=true):ca ws (.leaf r j)=true:=by
 unfold dJ at h;unfold ca;rw[WV]at h ⊢;obtain⟨x,h1,h2⟩:=h;refine⟨x,h1,?_⟩;cases x<;>simp_all [keyOf,WK.hitR,WK.hits]
theorem Cv {bE:Nat->List W}{g:Gm}{r j:Nat}{p:Nat->Bool}:∀ {m:Nat},
 (∀ k,k<m->p k=true->ca (bE k) (.leaf r j)=true->∀ i,i<k->ca (bE i) (.leaf r j)=true->p i=true)->
 (∀ k,k<m->dJ (bE k) (.hd r j)=false->cN xT (aS (aS g (sel bE (fun _=>true) k)) (bE k) (.leaf r j))=cN xT (aS g (sel bE (fun _=>true) k) (.leaf r j)))->
 cN xT (aS g (sel bE p m) (.leaf r j))=cN xT (aS g (sel bE (fun i=>p i&&dJ (bE i) (.hd r j)) m) (.leaf r j))
 |0,_,_=>rfl
 | m+1,hc,hg=>by
   have ih:=Cv (m:=m) (fun k hk=>hc k (by omega)) (fun k hk=>hg k (by omega));rw[A4,A4];cases hp:p m with
   |false=>simpa[hp,aS]using ih
   | true=>
     cases ht:dJ (bE m) (.hd r j)with
     | true=>
       simp only[hp,ht,Bool.and_self,if_true];rw[mL (Be ht)]
     | false=>
       simp only[hp,ht,Bool.and_false,if_true,WH,if_false];show _=cN xT (aS g (sel bE (fun i=>p i&&dJ (bE i) (.hd r j)) m) (.leaf r j));rw[<-ih];cases hl:ca (bE m) (.leaf r j)with
       |false=>rw[iX hl]
       | true=>
         have e1:aS (aS g (sel bE p m)) (bE m) (.leaf r j)=aS (aS g (sel bE (fun _=>true) m)) (bE m) (.leaf r j):=mL hl;rw[e1,hg m (by omega) ht];rw[lE (q:=fun _=>true) (p:=p) (fun i hi hti=>hc m (by omega) hp hl i hi hti)]
theorem G5 {bE:Nat->List W}{g:Gm}{r j:Nat}{p q:Nat->Bool}{m:Nat} 
 (hp:∀ k,k<m->p k=true->ca (bE k) (.leaf r j)=true->∀ i,i<k->ca (bE i) (.leaf r j)=true->p i=true)
 (hq:∀ k,k<m->q k=true->ca (bE k) (.leaf r j)=true->∀ i,i<k->ca (bE i) (.leaf r j)=true->q i=true)
 (hg:∀ k,k<m->dJ (bE k) (.hd r j)=false->cN xT (aS (aS g (sel bE (fun _=>true) k)) (bE k) (.leaf r j))=cN xT (aS g (sel bE (fun _=>true) k) (.leaf r j)))
 (h:∀ k,k<m->dJ (bE k) (.hd r j)=true->p k=q k):
 cN xT (aS g (sel bE p m) (.leaf r j))=cN xT (aS g (sel bE q m) (.leaf r j)):=by
 rw[Cv hp hg,Cv hq hg]
 congr 2
 unfold sel
 congr 1
 refine Xm ?_;intro i hi;cases ht:dJ (bE i) (.hd r j)with
 |false=>simp
 |true=>simp[h i (WN.1 hi) ht]
def lu (o:Oper):List Nat:=o.after.toList.filterMap fun e=>if Y8 .any e then some e.on else none
def ve (ms:List Nat):List Nat->Nat
 |[]=>0
 |p::ps=>(1<<<p)|||(ms.getD p 0|||ve ms ps)
def AO :List (List Nat)->List Nat->List Nat
 |[],acc=>acc
 |ds::rest,acc=>AO rest (acc++[ve acc ds])
def jv (x y:List Loc×List WK):Bool:=
 x.2.any fun k=>y.1.any (fun l=>k.hitR l)||y.2.any (fun k'=>k.clash k')
def iN (x y:List Loc×List WK):Bool:=y.2.any fun k=>x.1.any fun l=>k.hitR l
def DC (mask:Nat)(y:List Loc×List WK):Nat->Tr->Bool
 |_,[]=>true
 |i,x::xs=>(mask.testBit i|| !(jv x y||iN x y))&&DC mask y (i+1) xs
def vm :List Nat->Tr->Tr->Bool
 |m::ms,xs,y::ys=>DC m y 0 xs&&vm ms (xs++[y]) ys
 |[],_,[]=>true
 |_,_,_=>false
def zf :Nat->List (List Nat)->Bool
 |_,[]=>true
 |i,ds::rest=>ds.all (fun p=>p.blt i)&&zf (i+1) rest
def aV (ops:Array Oper)(tr:Tr):Bool:=
 let ps:=ops.toList.map lu
 zf 0 ps&&vm (AO ps []) [] tr
end Go.V
namespace Go.V
theorem EI.at {P:Program}{n:Nat}{all:Array Oper}:∀ {ops:List Oper} {g g':Gm} {xs:List (List Loc×List W)},EI P n all ops g xs g'->
 xs.length=ops.length/\g'=aS g (xs.flatMap (·.2))/\∀ j o,ops[j]?=some o->∃ t ws,xs[j]?=some (t,ws)/\yj P n all o (aS g ((xs.take j).flatMap (·.2))) t ws/\jN (aS g ((xs.take j).flatMap (·.2))) ws
 |_,_,_,_,.nil g=>⟨rfl,rfl,fun j o h=>by simp at h⟩
 | _,_,_,_,.cons (t:=t) (ws:=ws) he hg hr=>by
   obtain⟨h1,h2,h3⟩:=EI.at hr;refine⟨by simp[h1],by rw[h2];simp[bV],?_⟩;intro j o h;cases j with
   |zero=>simp at h;subst h;exact⟨t,ws,rfl,by simpa[aS]using he,by simpa[aS]using hg⟩
   | succ j=>
     simp at h;obtain⟨t',ws',e1,e2,e3⟩:=h3 j o h;exact⟨t',ws',by simpa using e1,by simpa[bV]using e2,by simpa[bV]using e3⟩
theorem pO (xs:List (List Loc×List W)):∀ j,j<=xs.length->(xs.take j).flatMap (·.2)=(VW j).flatMap fun i=>(xs.getD i ([],[])).2
 |0,_=>rfl
 | j+1,h=>by
   rw[List.take_succ,Ye,Xs,Xs,pO xs j (by omega)]
   congr 1
   rw[IN (by omega)];simp[IN (show j<xs.length by omega)]
theorem sg {m j:Nat}(h:j<=m):(VW m).filter (fun i=>decide (i<j))=VW j:=by
 have e1:VW (j+(m-j))=VW j++(VW (m-j)).map (fun x=>j+x):=Y7;rw[show j+(m-j)=m from by omega]at e1;rw[e1,Xu];have e2:((VW (m-j)).map (fun x=>j+x)).filter (fun i=>decide (i<j))=[]:=by
  rw[Xn];intro a ha;obtain⟨x,_,rfl⟩:=Wu.1 ha;simp
 rw[e2,WU];exact XP.2 (fun a ha=>by simpa using ha)
theorem vf {S:Nat->Prop}{pr:Nat->List Nat}(hcl:∀ k,S k->∀ p∈pr k,S p):∀ (rest:List (List Nat)) (acc:List Nat),
 (∀ k ds,rest[k]?=some ds->pr (acc.length+k)=ds)->
 (∀ j,j<acc.length->∀ i,(acc.getD j 0).testBit i=true->(∀ p∈pr j,S p)->S i)->
 ∀ j,j<(AO rest acc).length->∀ i,((AO rest acc).getD j 0).testBit i=true->(∀ p∈pr j,S p)->S i
 |[],acc,_,h=>h
 | ds::rest,acc,hp,h=>by
   simp only[AO];refine vf hcl rest _ ?_ ?_
   ·intro k ds' hk;have:=hp (k+1) ds' (by simpa using hk);simp only[By,V9,Wy];rw[<-this];congr 1;omega
   ·intro j hj i hi hS;simp only[By,V9,Wy]at hj;rcases WM j acc.length with c|c
    ·refine h j c i ?_ hS;rw[If,Wa c]at hi;rw[If];exact hi
    ·have hj':j=acc.length:=by omega
     subst hj';have e0:=hp 0 ds rfl;rw[VL]at e0;rw[If,VY (VJ _)]at hi;simp only[Yq,List.getElem?_cons_zero,Wk]at hi;rw[e0]at hS;have key:∀ (ps:List Nat),(∀ p∈ps,S p)->(ve acc ps).testBit i=true->S i:=by
      intro ps
      induction ps with
      |nil=>intro _ hb;simp[ve]at hb
      | cons p ps ih=>
        intro hps hb;simp only[ve,Nat.testBit_or,Wo]at hb;rcases hb with hb|hb|hb
        ·rw[Nat.one_shiftLeft,Nat.testBit_two_pow]at hb;simp at hb;subst hb;exact hps _ (by simp)
        ·rcases WM p acc.length with c2|c2
         ·exact h p c2 i hb (hcl p (hps p (by simp)))
         ·rw[If,Wb c2]at hb;simp at hb
        ·exact ih (fun q hq=>hps q (by simp[hq])) hb
     exact key ds hS hi
theorem vl {mask:Nat}{y:List Loc×List WK}:∀ {xs:Tr} {i0:Nat},DC mask y i0 xs=true->∀ i x,xs[i]?=some x->mask.testBit (i0+i)=true\/(jv x y=false/\iN x y=false)
 |[],_,_,i,x,hx=>by simp at hx
 | x0::xs,i0,h,i,x,hx=>by
   simp only[DC,AI,Wo,XE,W2]at h;cases i with
   |zero=>simp at hx;subst hx;exact h.1
   | succ i=>
     simp at hx;have:=vl h.2 i x hx;rw[show i0+1+i=i0+(i+1)from by omega]at this;exact this
theorem qu :∀ {ms:List Nat} {xs ys:Tr},vm ms xs ys=true->∀ j y,ys[j]?=some y->∃ m,ms[j]?=some m/\∀ i x,(xs++ys)[i]?=some x->i<xs.length+j->m.testBit i=true\/(jv x y=false/\iN x y=false)
 |[],_,[],_,j,y,hy=>by simp at hy
 |_::_,_,[],_,j,y,hy=>by simp at hy
 |[],_,_::_,h,_,_,_=>by simp[vm]at h
 | m::ms,xs,y0::ys,h,j,y,hy=>by
   simp only[vm,AI]at h;cases j with
   | zero=>
     simp at hy;subst hy;refine⟨m,rfl,?_⟩;intro i x hx hi;rw[Wa (by omega)]at hx;have:=vl h.1 i x hx
     rwa [Wc]at this
   | succ j=>
     simp at hy;obtain⟨m',e1,e2⟩:=qu h.2 j y hy;refine⟨m',by simpa using e1,?_⟩;intro i x hx hi;refine e2 i x (by simpa using hx) (by simp;omega)
theorem qt :∀ {pss:List (List Nat)} {i0:Nat},zf i0 pss=true->∀ i ps,pss[i]?=some ps->∀ p∈ps,p<i0+i
 |[],_,_,i,ps,h=>by simp at h
 | q::pss,i0,h,i,ps,hi=>by
   simp only[zf,AI,List.all_eq_true]at h;cases i with
   | zero=>
     simp at hi;subst hi;intro p hp;have:=h.1 p hp;have h2:p+1<=i0:=by simpa[Zn]using this
     omega
   | succ i=>
     simp at hi;intro p hp;have:=qt h.2 i ps hi p hp;omega
end Go.V
namespace Go.V
def iU (listed:Array Bool)(i:Nat):Bool:=listed.getD i false
theorem nU {listed:Array Bool}{i k:Nat}(hi:i<listed.size):iU (listed.setIfInBounds i true) k=(iU listed k||decide (k=i)):=by
 unfold iU;by_cases e:k=i
 ·subst e;simp[hi]
 ·rw[getD_set_ne false (Ne.symm e)];simp[e]
def kP (ops:Array Oper)(k:Nat):List Nat:=match ops[k]? with
 |some o=>lu o
 |none=>[]
theorem qo {o:Oper}{p:Nat}:p∈lu o↔∃ e∈o.after,Y8 .any e=true/\e.on=p:=by
 unfold lu;simp only[List.mem_filterMap,Array.mem_toList_iff]
 constructor
 ·rintro⟨e,he,h⟩;split at h
  ·rename_i hb;cases h;exact⟨e,he,hb,rfl⟩
  ·cases h
 ·rintro⟨e,he,hb,rfl⟩;exact⟨e,he,by simp[hb]⟩
theorem vO {ws:List W}{l:Loc}:dJ ws l=true↔∃ k∈ws.map keyOf,k.hitR l=true:=by
 unfold dJ;simp only[WV,Wu]
 constructor
 ·rintro⟨x,h1,h2⟩;exact⟨_,⟨x,h1,rfl⟩,h2⟩
 ·rintro⟨k,⟨x,h1,rfl⟩,h2⟩;exact⟨x,h1,h2⟩
theorem C9 {k:WK}{l:Loc}(h:k.hits l=true):k.hitR l=true:=by cases k<;>cases l<;>simp_all [WK.hits,WK.hitR]
theorem fI {ws:List W}{l:Loc}:ca ws l=true↔∃ k∈ws.map keyOf,k.hits l=true:=by
 unfold ca;simp only[WV,Wu]
 constructor
 ·rintro⟨x,h1,h2⟩;exact⟨_,⟨x,h1,rfl⟩,h2⟩
 ·rintro⟨k,⟨x,h1,rfl⟩,h2⟩;exact⟨x,h1,h2⟩
section
variable {P : Program} {cx : Cx} {ops : Array Oper} {Q : Exit -> Act -> World -> Prop} {g0 gm : Gm} {xs : List (List Loc × List W)}
theorem Ci {tr:Tr}(hok:aV ops tr=true){j p:Nat}(hp:p∈kP ops j):p<j:=by
 simp only[aV,AI]at hok;unfold kP at hp;cases ho:ops[j]? with
 |none=>simp[ho]at hp
 | some o=>
   simp only[ho]at hp;have:=qt hok.1 j (lu o) (by simp[ho]) p hp;omega
theorem js {tr:Tr}(hok:aV ops tr=true){S:Nat->Prop}(hcl:∀ k,S k->∀ p∈kP ops k,S p){i j:Nat}{x y:List Loc×List WK}(hij:i<j)(hx:tr[i]?=some x)(hy:tr[j]?=some y) 
 (hS:∀ p∈kP ops j,S p) (hbad:jv x y=true\/iN x y=true):S i:=by
 simp only[aV,AI]at hok;obtain⟨m,e1,e2⟩:=qu hok.2 j y hy;have e3:=e2 i x (by simpa using hx) (by simpa using hij);rcases e3 with e3|⟨e3,e4⟩
 ·refine vf (S:=S) (pr:=kP ops) hcl (ops.toList.map lu) [] ?_ ?_ j (IT.1 e1).1 i ?_ hS
  ·intro k ds hk;simp only[List.getElem?_map,VO]at hk;obtain⟨o,ho,rfl⟩:=hk;rw[V6]at ho;simp[kP,ho]
  ·intro j hj;simp at hj
  ·rw[If,e1];exact e3
 ·rcases hbad with h|h
  ·rw[e3]at h;cases h
  ·rw[e4]at h;cases h
theorem BP (hrun:EI P cx.n ops ops.toList g0 xs gm)(hok:aV ops (xs.map fun x=>(x.1,x.2.map keyOf))=true)(hQ:∀ a' w',de cx gm a' w'->Q .normal a' w'):
 ∀ (fuel:Nat) (listed:Array Bool) (a:Act) (w:World),listed.size=ops.size->((VW ops.size).filter fun i=> !iU listed i).length<=fuel->
  (∀ k,iU listed k=true->∀ p∈kP ops k,iU listed p=true)->
  de cx (aS g0 (sel (fun i=>(xs.getD i ([],[])).2) (iU listed) ops.size)) a w->wpAny P .any ops Q fuel listed a w:=by
 obtain⟨hlen,hgm,hat⟩:=EI.at hrun;have hlen':xs.length=ops.size:=by simpa using hlen
 let bE:Nat->List W:=fun i=>(xs.getD i ([],[])).2
 have hall:gm=aS g0 (sel bE (fun _=>true) ops.size):=by
  have:=pO xs xs.length (VJ _);rw[List.take_length]at this;rw[hgm,this,hlen'];unfold sel;rw[XP.2 (fun _ _=>rfl)]
 have hex:∀ j,j<ops.size->∃ o t,ops[j]?=some o/\xs[j]?=some (t,bE j)/\yj P cx.n ops o (aS g0 (sel bE (fun i=>decide (i<j)) ops.size)) t (bE j)/\jN (aS g0 (sel bE (fun _=>true) j)) (bE j):=by
  intro j hj;have ho:ops.toList[j]?=some ops[j]:=by simp[hj]
  obtain⟨t,ws,e1,e2,e4⟩:=hat j _ ho;have hw:bE j=ws:=by simp[bE,If,e1]
  refine⟨ops[j],t,by simp[hj],by rw[hw];exact e1,?_⟩;rw[hw];have e3:=pO xs j (by omega);unfold sel;rw[sg (by omega)];rw[e3]at e2 e4;refine⟨e2,?_⟩;rw[XP.2 (fun _ _=>rfl)];exact e4
 have full:∀ (listed:Array Bool) (a:Act) (w:World),(∀ j,j<ops.size->iU listed j=true)->de cx (aS g0 (sel bE (iU listed) ops.size)) a w->Q .normal a w:=by
  intro listed a w hl hS;refine hQ a w ?_;rw[hall];have:sel bE (iU listed) ops.size=sel bE (fun _=>true) ops.size:=by
   unfold sel
   congr 1
   exact Xm (fun i hi=>hl i (WN.1 hi))
  rw[<-this];exact hS
 have noready:∀ (listed:Array Bool),listed.size=ops.size->Y9 .any ops listed=[]->∀ j,j<ops.size->iU listed j=true:=by
  intro listed hsz hr j
  induction j using Nat.strongRecOn with
  | _ j ih=>
    intro hj;cases hl:iU listed j with
    |true=>rfl
    | false=>
      exfalso;have:j∈Y9 .any ops listed:=by
       rw[mem_ready];refine⟨?_,ops[j],by simp[hj],?_⟩
       ·unfold iU at hl;simp only[Wp]at hl ⊢;rw[WZ (by omega)]at hl ⊢
        simpa using hl
       ·intro e he hb;have hp:e.on∈kP ops j:=by
         simp only[kP,hj,WZ];exact qo.2 ⟨e,he,hb,rfl⟩
        have hlt:=Ci hok hp;exact ih e.on hlt (by omega)
      rw[hr]at this;cases this
 intro fuel
 induction fuel with
 | zero=>
   intro listed a w hsz hf hcl hS;have hnil:(VW ops.size).filter (fun i=> !iU listed i)=[]:=WC (by omega);have hl:∀ j,j<ops.size->iU listed j=true:=by
    intro j hj;have:=Xn.1 hnil j (WN.2 hj)
    simpa using this
   refine⟨?_,full listed a w hl hS⟩;rw[List.eq_nil_iff_forall_not_mem];intro j hj;obtain⟨h1,o,ho,_⟩:=mem_ready.1 hj;have hjlt:=(OF.1 ho).1;have:=hl j hjlt;unfold iU at this;simp only[Wp]at h1 this;rw[WZ (by omega)]at h1 this;simp only[Wk]at h1 this;rw[h1]at this;cases this
 | succ fuel ih=>
   intro listed a w hsz hf hcl hS;refine⟨fun hr=>full listed a w (noready listed hsz hr) hS,?_⟩;intro i hi;obtain⟨h1,o,ho,hpre⟩:=mem_ready.1 hi;have hilt:=(OF.1 ho).1;have hni:iU listed i=false:=by
    unfold iU;simp only[Wp]at h1 ⊢;rw[WZ (by omega)]at h1 ⊢
    simpa using h1
   have hpi:∀ p∈kP ops i,iU listed p=true:=by
    intro p hp;simp only[kP,ho]at hp;obtain⟨e,he,hb,rfl⟩:=qo.1 hp;exact hpre e he hb
   obtain⟨o',t,ho',hxs,hexec,_⟩:=hex i hilt;rw[ho]at ho';cases ho';have htr:∀ k t',xs[k]?=some (t',bE k)->(xs.map fun x=>(x.1,x.2.map keyOf))[k]?=some (t',(bE k).map keyOf):=by
    intro k t' h;simp[h]
   have later:∀ k,i<k->k<ops.size->∀ l,ca (bE k) l=true->(ca (bE i) l=true\/l∈t)->iU listed k=false:=by
    intro k hik hk l hl hc;cases hlk:iU listed k with
    |false=>rfl
    | true=>
      exfalso;obtain⟨o2,t2,ho2,hxs2,_⟩:=hex k hk;have:=js hok (S:=fun k=>iU listed k=true) hcl hik (htr i t hxs) (htr k t2 hxs2) (hcl k hlk) (by
       obtain⟨q,hq1,hq2⟩:=fI.1 hl;rcases hc with hc|hc
       ·obtain⟨q',hq3,hq4⟩:=fI.1 hc;refine .inl ?_;simp only[jv,WV,Wo];exact⟨q',hq3,.inr ⟨q,hq1,Ao hq4 hq2⟩⟩
       ·refine .inr ?_;simp only[iN,WV];exact⟨q,hq1,l,hc,C9 hq2⟩)
      rw[hni]at this;cases this
   have hexec':yj P cx.n ops o (aS g0 (sel bE (iU listed) ops.size)) t (bE i):=by
    refine hexec.congr ?_;intro l hl;have agree:∀ k,k<ops.size->dJ (bE k) l=true->iU listed k=decide (k<i):=by
     intro k hk htk;obtain⟨q,hq1,hq2⟩:=vO.1 htk;obtain⟨o2,t2,ho2,hxs2,_⟩:=hex k hk;rcases Nat.lt_trichotomy k i with c|c|c
     ·simp only[c,decide_true];refine js hok (S:=fun k=>iU listed k=true) hcl c (htr k t2 hxs2) (htr i t hxs) hpi (.inl ?_);simp only[jv,WV,Wo];exact⟨q,hq1,.inl ⟨l,hl,hq2⟩⟩
     ·subst c;simp[hni]
     ·have:iU listed k=false:=by
       cases hlk:iU listed k with
       |false=>rfl
       | true=>
         exfalso;have:=js hok (S:=fun k=>iU listed k=true) hcl c (htr i t hxs) (htr k t2 hxs2) (hcl k hlk) (by
          refine .inr ?_;simp only[iN,WV];exact⟨q,hq1,l,hl,hq2⟩)
         rw[hni]at this;cases this
      rw[this];simp;omega
    have plain:aS g0 (sel bE (iU listed) ops.size) l=aS g0 (sel bE (fun i_1=>decide (i_1<i)) ops.size) l:=by
     refine lE ?_;intro k hk htk;obtain⟨q,hq1,hq2⟩:=fI.1 htk;exact agree k hk (vO.2 ⟨q,hq1,C9 hq2⟩)
    cases l with
    | hd r j=>
      refine⟨plain,G5 ?_ ?_ ?_ agree⟩
      ·intro k hk hlk htk k' hk' htk';obtain⟨o2,t2,ho2,hxs2,_⟩:=hex k hk;obtain⟨o3,t3,ho3,hxs3,_⟩:=hex k' (by omega);obtain⟨q,hq1,hq2⟩:=fI.1 htk;obtain⟨q',hq3,hq4⟩:=fI.1 htk';refine js hok (S:=fun k=>iU listed k=true) hcl hk' (htr k' t3 hxs3) (htr k t2 hxs2) (hcl k hlk) (.inl ?_);simp only[jv,WV,Wo];exact⟨q',hq3,.inr ⟨q,hq1,Ao hq4 hq2⟩⟩
      ·intro k hk hlk _ k' hk' _;simp at hlk ⊢;omega
      ·intro k hk ht;obtain⟨_,_,_,_,_,hgo⟩:=hex k hk;exact hgo r j ht
    |_=>exact plain
   show wpOp P ops Q i _ a w;unfold wpOp;simp only[ho];refine hexec'.sound hS ?_;intro a' w' hs';refine ih _ a' w' (by simp[hsz]) ?_ ?_ ?_
   ·have e:(VW ops.size).filter (fun k=> !iU (listed.setIfInBounds i true) k)=((VW ops.size).filter (fun k=> !iU listed k)).filter (fun k=>decide (k≠i)):=by
     rw[XW];refine Xm ?_;intro k _;rw[nU (by omega)];by_cases hki:k=i<;>simp[hki]
    have hlt:(((VW ops.size).filter (fun k=> !iU listed k)).filter (fun k=>decide (k≠i))).length<((VW ops.size).filter (fun k=> !iU listed k)).length:=by
     rw[List.length_filter_lt_length_iff_exists];exact⟨i,List.mem_filter.2 ⟨WN.2 hilt,by simp[hni]⟩,by simp⟩
    rw[e];omega
   ·intro k hk p hp;rw[nU (by omega)]at hk ⊢;rw[Wo]at hk;rcases hk with hk|hk
    ·rw[hcl k hk p hp];rfl
    ·simp at hk;subst hk;rw[hpi p hp];rfl
   ·have e:aS (aS g0 (sel bE (iU listed) ops.size)) (bE i)=aS g0 (sel bE (iU (listed.setIfInBounds i true)) ops.size):=by
     funext l
     cases ht:ca (bE i) l with
     | true=>
       symm
       refine G6 hilt ?_ ht ?_
       ·rw[nU (by omega)];simp
       ·intro k hik hk htk;rw[nU (by omega),later k hik hk l htk (.inl ht)];simp;omega
     | false=>
       rw[iX ht];refine lE ?_;intro k hk htk;rw[nU (by omega)];have:k≠i:=fun e=>by rw[e,ht]at htk;cases htk
       simp[this]
    rw[<-e];exact hs'
theorem AY {id:Nat}{a:Act}{w:World}(hm:P.follows .mixedOrders=true)(hrun:EI P cx.n ops ops.toList g0 xs gm)(hok:aV ops (xs.map fun x=>(x.1,x.2.map keyOf))=true) 
 (hQ:∀ a' w',de cx gm a' w'->Q .normal a' w') (hS:∀ a w,de cx g0 a w->de cx g0 a {w with drawn:=w.drawn+1}) (hs:de cx g0 a w):(Code.region id ops true).wp P Q a w:=by
 refine wp_region_any hm ?_;refine BP hrun hok hQ ops.size _ a _ (by simp) ?_ ?_ ?_
 ·exact Nat.le_trans (List.length_filter_le _ _) (by simp)
 ·intro k hk;exfalso;unfold iU at hk;simp only[Wp,Array.getElem?_replicate]at hk;split at hk<;>simp at hk
 ·have:sel (fun i=>(xs.getD i ([],[])).2) (iU (Xj ops.size false)) ops.size=[]:=by
   unfold sel;have:(VW ops.size).filter (iU (Xj ops.size false))=[]:=by
    rw[Xn];intro k hk;have hk:=WN.1 hk;simp[iU,hk]
   rw[this];rfl
  rw[this];exact hS a w hs
end
end Go.V
namespace Go.V
def GC :List W->Nat->Option R
 |[],_=>none
 | .reg d x::ws,d'=>if d.beq d' then some x else GC ws d'
 |_::ws,d'=>GC ws d'
def Cj :List W->Nat->Nat->Option Hv
 |[],_,_=>none
 | .leaf r j x::ws,r',j'=>if r.beq r'&&j.beq j' then some x else Cj ws r' j'
 |_::ws,r',j'=>Cj ws r' j'
def nT (g:Gm)(ov:List W):List Nat->VS
 |[]=>[]
 | d::ds=>match GC ov d with
   |some x=>.reg d x::nT g ov ds
   | none=>match g (.reg d)with
     |some (.r x)=>.reg d x::nT g ov ds
     |_=>nT g ov ds
def jk (g:Gm)(ov:List W)(r:Nat):Nat->Nat->List Hv
 |_,0=>[]
 | j,m+1=>match Cj ov r j with
   |some h=>h::jk g ov r (j+1) m
   | none=>match g (.leaf r j)with
     |some (.h h)=>h::jk g ov r (j+1) m
     |_=>⟨0,0,none,.gone⟩::jk g ov r (j+1) m
def py (g:Gm)(ov:List W):List Nat->VS
 |[]=>[]
 | r::rs=>match g (.meta_ r)with
   |some (.m k box)=>.root r box (jk g ov r 0 k)::py g ov rs
   |_=>py g ov rs
def xR (σ:VS)(regs roots:List Nat)(ov:List W):VS:=nT (get σ) ov regs++py (get σ) ov roots
def iK (g whole:Gm)(r j:Nat)(p:Hv->Hv->Prop):Prop:=
 match g (.leaf r j)with
 | some (.h h')=>match whole (.leaf r j)with
   |some (.h h)=>p h' h
   |_=>False
 |_=>False
def nD (whole:Gm):List BC->Prop
 |[]=>True
 | .pt r _::cs=>(match whole (.meta_ r)with
   |some (.m _ true)=>True
   |_=>False)/\nD whole cs
 | .rp _ _::cs=>nD whole cs
def Lt (g whole:Gm):A->A->Prop
 | .vw r j v' lo n,x=>match x with
   | .vw r2 j2 v lo2 n2=>(WR r r2&&WR j j2)=true/\lo=lo2/\n=n2/\iK g whole r j fun h' h=>h'.ver=v'/\h.ver=v
   |_=>False
 | .pn r j v' iv' p,x=>match x with
   | .pn r2 j2 v iv p2=>(WR r r2&&WR j j2)=true/\p=p2/\iK g whole r j fun h' h=>h'.ver=v'/\h.ver=v/\h'.iv=iv'/\h.iv=iv
   |_=>False
 | .vn r j v' iv' p lo n,x=>match x with
   | .vn r2 j2 v iv p2 lo2 n2=>(WR r r2&&WR j j2)=true/\p=p2/\lo=lo2/\n=n2/\iK g whole r j fun h' h=>h'.ver=v'/\h.ver=v/\h'.iv=iv'/\h.iv=iv
   |_=>False
 | .pt r j,x=>x=.pt r j/\match whole (.meta_ r)with
   |some (.m _ true)=>True
   |_=>False
 | .v y,x=>x=.v y
 | .nl,x=>x=.nl
 | .ro sz es,x=>x=.ro sz es
 | .rp rec j,x=>x=.rp rec j
 | .fn f caps,x=>x=.fn f caps/\nD whole caps
 | .mv r j v',x=>match x with
   | .mv r2 j2 v=>(WR r r2&&WR j j2)=true/\iK g whole r j fun h' h=>h'.ver=v'/\h.ver=v
   |_=>False
 | .st _ _ _ _ _,_=>False
 | .it es vs,x=>x=.it es vs
 | .un,x=>x=.un
def Fh (g whole:Gm):List A->List A->Prop
 |[],[]=>True
 |y::ys,x::xs=>Lt g whole y x/\Fh g whole ys xs
 |_,_=>False
mutual
def pu (g whole:Gm):R->R->Prop
 | .one y,x=>match x with
   | .one x=>Lt g whole y x
   |_=>False
 | .agg ys,x=>match x with
   | .agg xs=>Fh g whole ys xs
   |_=>False
 | .tup rs,x=>match x with
   | .tup qs=>xD g whole rs qs
   |_=>False
def xD (g whole:Gm):List R->List R->Prop
 | [],xs=>match xs with
   |[]=>True
   |_=>False
 | r::rs,xs=>match xs with
   |q::qs=>pu g whole r q/\xD g whole rs qs
   |_=>False
end
def f9 (g:Gm)(r:Nat):Nat->List Hv->Prop
 |_,[]=>True
 | j,h::hs=>(match g (.leaf r j)with
   | some (.h h')=>h'.c=h.c/\match h.org with
     |none=>True
     |some i=>h'.org=some i
   |_=>False)/\f9 g r (j+1) hs
def fT (g whole:Gm):VS->Prop
 |[]=>True
 | .reg d x::τ=>(match g (.reg d)with
   |some (.r y)=>pu g whole y x
   |_=>False)/\fT g whole τ
 | .root r box hs::τ=>(match g (.meta_ r)with
   |some (.m k b)=>k=hs.length/\b=box
   |_=>False)/\f9 g r 0 hs/\fT g whole τ
 | .leaf _ _ _::_=>False
 | .gap _ _ _::_=>False
def FX (g:Gm):List Nat->Prop
 |[]=>True
 | r::rs=>(match g (.meta_ r)with
   |some (.m _ true)=>True
   |_=>False)/\FX g rs
def NZ (an:List Nat)(σ τ:VS):Prop:=fT (get σ) (get τ) τ/\FX (get τ) an
theorem xS {g:Gm}:∀ {an:List Nat},FX g an->∀ r∈an,∃ k,g (.meta_ r)=some (.m k true)
 |[],_,r,h=>by cases h
 | a::an,h,r,hr=>by
   rcases VN.1 hr with rfl|hr
   ·obtain⟨h,_⟩:=h;split at h
    ·rename_i k e;exact⟨k,e⟩
    ·exact h.elim
   ·exact xS h.2 r hr
section
variable {P : Program} {cx : Cx}
theorem fT.regs {g whole:Gm}:∀ {τ:VS},fT g whole τ->∀ d x,get τ (.reg d)=some x->∃ r y,x=.r r/\g (.reg d)=some (.r y)/\pu g whole y r
 |[],_,d,x,h=>by simp[get]at h
 | .reg d' y::τ,hs,d,x,h=>by
   obtain⟨h1,h3⟩:=hs;simp only[get,W.app]at h;split at h
   ·rename_i e;cases e;cases h;split at h1
    ·rename_i y' e';exact⟨_,_,rfl,e',h1⟩
    ·exact h1.elim
   ·exact fT.regs h3 d x h
 | .root r box hs::τ,hsub,d,x,h=>by
   simp only[get,W.app]at h;exact fT.regs hsub.2.2 d x h
 | .leaf _ _ _::_,hs,_,_,_=>hs.elim
 | .gap _ _ _::_,hs,_,_,_=>hs.elim
theorem fT.metas {g whole:Gm}:∀ {τ:VS},fT g whole τ->∀ r x,get τ (.meta_ r)=some x->(∃ k box,x=.m k box)/\g (.meta_ r)=some x
 |[],_,r,x,h=>by simp[get]at h
 | .reg d' y::τ,hs,r,x,h=>by
   simp only[get,W.app]at h;rw[if_neg (by simp)]at h;exact fT.metas hs.2 r x h
 | .root r' box hs::τ,hsub,r,x,h=>by
   obtain⟨h1,h2,h3⟩:=hsub;simp only[get,W.app]at h;split at h
   ·rename_i e;subst e;cases h;split at h1
    ·rename_i k b e';obtain⟨rfl,rfl⟩:=h1;exact⟨⟨_,_,rfl⟩,e'⟩
    ·exact h1.elim
   ·exact fT.metas h3 r x h
 | .leaf _ _ _::_,hs,_,_,_=>hs.elim
 | .gap _ _ _::_,hs,_,_,_=>hs.elim
theorem f9.at {g:Gm}{r:Nat}:∀ {hs:List Hv} {j i:Nat} {x:Hv},f9 g r j hs->hs[i]?=some x->∃ h',g (.leaf r (j+i))=some (.h h')/\h'.c=x.c/\(∀ o,x.org=some o->h'.org=some o)
 |[],_,_,_,_,h=>by simp at h
 | y::hs,j,i,x,hle,h=>by
   obtain⟨h1,h2⟩:=hle;cases i with
   | zero=>
     simp at h;subst h;split at h1
     ·rename_i h' e;refine⟨h',e,h1.1,fun o ho=>?_⟩;have:=h1.2;rw[ho]at this;exact this
     ·exact h1.elim
   | succ i=>
     simp at h;obtain⟨h',e,e2⟩:=f9.at h2 h;exact⟨h',by rw[<-e];congr 2;omega,e2⟩
theorem fT.leaves {g whole:Gm}:∀ {τ:VS},fT g whole τ->∀ r j x,get τ (.leaf r j)=some x->∃ h h' k box,x=.h h/\g (.leaf r j)=some (.h h')/\(h'.c=h.c/\∀ o,h.org=some o->h'.org=some o)/\get τ (.meta_ r)=some (.m k box)/\j<k
 |[],_,r,j,x,h=>by simp[get]at h
 | .reg d' y::τ,hs,r,j,x,h=>by
   simp only[get,W.app]at h ⊢;rw[if_neg (by simp)]at h;rw[if_neg (by simp)];exact fT.leaves hs.2 r j x h
 | .root r' box hs::τ,hsub,r,j,x,h=>by
   simp only[get,W.app]at h ⊢;split at h
   ·rename_i e;subst e;rw[if_pos rfl];simp only[VO]at h;obtain⟨y,e1,rfl⟩:=h;obtain⟨h',e2,e3⟩:=f9.at hsub.2.1 e1;rw[Wc]at e2;exact⟨y,h',_,_,rfl,e2,e3,rfl,(IT.1 e1).1⟩
   ·rename_i e;rw[if_neg e];exact fT.leaves hsub.2.2 r j x h
 | .leaf _ _ _::_,hs,_,_,_,_=>hs.elim
 | .gap _ _ _::_,hs,_,_,_,_=>hs.elim
theorem NZ.sim {an:List Nat}(ha:∀ r x,cx.aloc r=some x->r∈an){σ τ:VS}(h:NZ an σ τ){a:Act}{w:World}(hS:de cx (get σ) a w):de cx (get τ) a w:=by
 obtain⟨G,hS⟩:=hS;obtain⟨h,hk⟩:=h
 open Classical in
 let G':Gh:={G with loc:=fun r=>if∃ k,get τ (.meta_ r)=some (.m k true)then G.loc r else none}
 have pair:∀ r j (p:Hv->Hv->Prop),iK (get σ) (get τ) r j p->∀ h0,gl (get σ) r j=some h0->∃ h1,gl (get τ) r j=some h1/\p h0 h1/\h1.c=h0.c:=by
  intro r j p hs h0 e;rw[av]at e;unfold iK at hs;rw[e]at hs;simp only at hs;split at hs
  ·rename_i h1 e1;obtain⟨y,h',_,_,q1,q2,q3,_⟩:=fT.leaves h r j _ e1;cases q1;rw[e]at q2;cases q2;exact⟨h1,av.2 e1,hs,q3.1.symm⟩
  ·exact hs.elim
 have beq:∀ {r r2 j j2:Nat},(WR r r2&&WR j j2)=true->r=r2/\j=j2:=by
  intro r r2 j j2 e;simp only[AI]at e;exact⟨V0 e.1,V0 e.2⟩
 have hA:∀ y x v,Lt (get σ) (get τ) y x->eZ (gl (get σ)) G w y v->eZ (gl (get τ)) G' w x v:=by
  intro y x v hc hx;cases y with
  | pt r j=>
    obtain⟨rfl,hc⟩:=hc;obtain⟨b,off,e1,e2⟩:=hx;refine⟨b,off,?_,e2⟩;split at hc
    ·rename_i k e;simp only[G'];rw[if_pos ⟨k,e⟩];exact e1
    ·exact hc.elim
  |st _ _ _ _ _=>exact hc.elim
  | mv r j v'=>
    cases x with
    | mv r2 j2 ver=>
      obtain⟨e,hp⟩:=hc;obtain⟨rfl,rfl⟩:=beq e;obtain⟨h0,e1,e2,e3⟩:=hx;obtain⟨h1,f1,⟨f2,f3⟩,f4⟩:=pair r j _ hp h0 e1;exact⟨h1,f1,by omega,fun _ kb es qc=>e3 f2 kb es (by rw[<-f4];exact qc)⟩
    |_=>exact hc.elim
  | vw r j v' lo n=>
    cases x with
    | vw r2 j2 ver lo2 n2=>
      obtain⟨e,rfl,rfl,hp⟩:=hc;obtain⟨rfl,rfl⟩:=beq e;obtain⟨h0,e1,e2,e3⟩:=hx;obtain⟨h1,f1,⟨f2,f3⟩,f4⟩:=pair r j _ hp h0 e1;exact⟨h1,f1,by omega,fun _ sz es qc=>e3 f2 sz es (by rw[<-f4];exact qc)⟩
    |_=>exact hc.elim
  | pn r j v' iv' p=>
    cases x with
    | pn r2 j2 ver iv p2=>
      obtain⟨e,rfl,hp⟩:=hc;obtain⟨rfl,rfl⟩:=beq e;obtain⟨h0,e1,e2,e3,e4,e5⟩:=hx;obtain⟨h1,f1,⟨f2,f3,f5,f6⟩,f4⟩:=pair r j _ hp h0 e1;exact⟨h1,f1,by omega,by omega,e4,fun _ l qc=>e5 (by simp[uQ,f2,f5]) l (by rw[<-f4];exact qc)⟩
    |_=>exact hc.elim
  | vn r j v' iv' p lo n=>
    cases x with
    | vn r2 j2 ver iv p2 lo2 n2=>
      obtain⟨e,rfl,rfl,rfl,hp⟩:=hc;obtain⟨rfl,rfl⟩:=beq e;obtain⟨h0,e1,e2,e3,e4,e5⟩:=hx;obtain⟨h1,f1,⟨f2,f3,f5,f6⟩,f4⟩:=pair r j _ hp h0 e1;exact⟨h1,f1,by omega,by omega,e4,fun _ l rec o sz es qc=>e5 (by simp[eD,f2,f5]) l rec o sz es (by rw[<-f4];exact qc)⟩
    |_=>exact hc.elim
  |v y=>have hc:x=_:=hc;subst hc;exact hx
  |nl=>have hc:x=_:=hc;subst hc;exact hx
  |ro sz es=>have hc:x=_:=hc;subst hc;exact hx
  |rp rec j=>have hc:x=_:=hc;subst hc;exact hx
  |un=>have hc:x=_:=hc;subst hc;trivial
  |it es vs=>have hc:x=_:=hc;subst hc;exact hx
  | fn f caps=>
    obtain⟨rfl,hc⟩:=hc;obtain⟨ps,e,hx⟩:=hx;refine⟨ps,e,?_⟩;have key:∀ (caps:List BC) (ps:List Value),nD (get τ) caps->dp G w caps ps->dp G' w caps ps:=by
     intro caps
     induction caps with
     |nil=>intro ps _ h;exact h
     | cons c cs ih=>
       intro ps hk hx;obtain⟨v,vs',e,h1,h2⟩:=hx;cases c with
       | pt r j=>
         obtain⟨k1,k2⟩:=hk;refine⟨v,vs',e,?_,ih _ k2 h2⟩;obtain⟨b,off,e1,e2⟩:=h1;refine⟨b,off,?_,e2⟩;split at k1
         ·rename_i k e;simp only[G'];rw[if_pos ⟨k,e⟩];exact e1
         ·exact k1.elim
       |rp rec j=>exact⟨v,vs',e,h1,ih _ hk h2⟩
    exact key caps ps hc hx
 have hAs:∀ ys xs vs,Fh (get σ) (get τ) ys xs->bM (gl (get σ)) G w ys vs->bM (gl (get τ)) G' w xs vs:=by
  intro ys
  induction ys with
  | nil=>intro xs vs hc hx;cases xs with
    |nil=>exact hx
    |cons _ _=>exact hc.elim
  | cons y ys ih=>
    intro xs vs hc hx;cases xs with
    |nil=>exact hc.elim
    | cons x xs=>
      obtain⟨v,vs',e,h1,h2⟩:=hx;exact⟨v,vs',e,hA y x v hc.1 h1,ih xs vs' hc.2 h2⟩
 have hR:∀ y x v,pu (get σ) (get τ) y x->cg (gl (get σ)) G w y v->cg (gl (get τ)) G' w x v:=by
  intro y
  induction y using R.rec (motive_2:=fun ys=>∀ xs vs,xD (get σ) (get τ) ys xs->fD (gl (get σ)) G w ys vs->fD (gl (get τ)) G' w xs vs)with
  | one y=>
    intro x v hc hx;cases x with
    |one x=>simp only[cg,pu]at*;exact hA y x v hc hx
    |agg _=>simp[pu]at hc
    |tup _=>simp[pu]at hc
  | agg ys=>
    intro x v hc hx;cases x with
    |agg xs=>simp only[cg,pu]at*;obtain⟨vs,e,hx⟩:=hx;exact⟨vs,e,hAs ys xs vs hc hx⟩
    |one _=>simp[pu]at hc
    |tup _=>simp[pu]at hc
  | tup ys ih=>
    intro x v hc hx;cases x with
    |tup xs=>simp only[cg,pu]at*;obtain⟨vs,e,hx⟩:=hx;exact⟨vs,e,ih xs vs hc hx⟩
    |one _=>simp[pu]at hc
    |agg _=>simp[pu]at hc
  | nil=>
    rename_i xs vs hc hx;cases xs with
    |nil=>exact hx
    |cons _ _=>simp[xD]at hc
  | cons r rs ih1 ih2=>
    rename_i xs vs hc hx;cases xs with
    |nil=>simp[xD]at hc
    | cons q qs=>
      simp only[fD,xD]at*;obtain⟨v,vs',e,h1,h2⟩:=hx;exact⟨v,vs',e,ih1 q v hc.1 h1,ih2 qs vs' hc.2 h2⟩
 refine⟨G',hS.defers,hS.tm,?_,?_,?_,?_,?_,hS.lt,hS.frame,hS.frow,?_,?_,hS.afr,?_,?_,hS.roX⟩
 ·intro d x hx;obtain⟨r,y,rfl,he,hc⟩:=fT.regs h d x hx;obtain⟨e1,r',e2,e3⟩:=hS.reg d _ he;cases e2;exact⟨e1,r,rfl,hR y r _ hc e3⟩
 ·intro r k hk;obtain⟨b,off,cur,ty,f1,f2⟩:=hS.boxes r k (fT.metas h r _ hk).2;exact⟨b,off,cur,ty,by simp only[G'];rw[if_pos ⟨k,hk⟩];exact f1,f2⟩
 ·intro r j x hx;obtain⟨y,h',k,box,rfl,q2,q3,q4,q5⟩:=fT.leaves h r j x hx;obtain⟨h0,k0,box0,e1,e2,e3,e4⟩:=hS.leaf r j _ q2;cases e1;refine⟨y,k,box,rfl,q4,q5,?_⟩;unfold cR at e4 ⊢;rw[q3.1]at e4;exact e4
 ·intro r x hx;exact(fT.metas h r x hx).1
 ·intro r b hb;simp only[G']at hb;split at hb
  ·rename_i e;exact e
  ·cases hb
 ·intro r j h0 e i hi;obtain⟨y,h',k,box,e1,q2,q3,q4,q5⟩:=fT.leaves h r j _ (av.1 e);cases e1;exact hS.anc r j h' (av.2 q2) i (q3.2 i hi)
 ·intro r x hx;have:=xS hk r (ha r x hx);simp only[G'];obtain⟨k,hk2⟩:=this;rw[if_pos ⟨k,hk2⟩];obtain⟨g1,g2⟩:=hS.aloc r x hx;have:=(fT.metas h r _ hk2).2;rw[this]at g2;cases g2;exact⟨g1,hk2⟩
 ·intro r1 r2 k1 k2 b o1 o2 hne h1 h2 q1 q2;simp only[G']at q1 q2;rw[if_pos ⟨k1,h1⟩]at q1;rw[if_pos ⟨k2,h2⟩]at q2;exact hS.sep r1 r2 k1 k2 b o1 o2 hne (fT.metas h r1 _ h1).2 (fT.metas h r2 _ h2).2 q1 q2
 ·intro r b off hx ha2;simp only[G']at hx;split at hx
  ·exact hS.newb r b off hx ha2
  ·cases hx
theorem de.drawn {g:Gm}{a:Act}{w:World}(h:de cx g a w)(k:Nat):de cx g a {w with drawn:=k}:=by
 obtain⟨G,hS⟩:=h
 let w':World:={w with drawn:=k}
 have st:Step g G w g G w':=⟨fun r j h hh=>⟨h,hh,.inl ⟨rfl,rfl,fun _ _ _ _=>rfl⟩⟩,fun b hb=>⟨hb,rfl⟩,fun b hb=>⟨hb,rfl⟩,fun r x h=>h⟩;refine⟨G,hS.defers,hS.tm,?_,hS.boxes,?_,hS.metas,hS.noloc,hS.lt,⟨hS.frame.os,hS.frame.tape,hS.frame.output,hS.frame.size,hS.frame.block⟩,hS.frow,hS.anc,hS.aloc,fun r b off e=>(hS.afr r b off e).keep rfl,hS.sep,hS.newb,hS.roX⟩
 ·intro d x hx;obtain⟨e1,r,e2,e3⟩:=hS.reg d x hx;exact⟨e1,r,e2,cg.step hS st _ _ e3⟩
 ·intro r j x hx;obtain⟨h,k',box,e1,e2,e3,e4⟩:=hS.leaf r j x hx;refine⟨h,k',box,e1,e2,e3,?_⟩;unfold cR at e4 ⊢;split at e4
  ·exact⟨bC.keep (w':=w') _ _ _ e4.1 (fun _ _=>rfl),e4.2⟩
  ·obtain⟨S,h1,h2⟩:=e4;exact⟨S,bC.keep (w':=w') _ _ _ h1 (fun _ _=>rfl),h2⟩
  ·trivial
def Ef (r:Nat):Nat->Nat->VS->VS
 |_,0,σ=>σ
 | j,m+1,σ=>match get σ (.leaf r j)with
   | some (.h h)=>match h.c with
     | .own (.s sz es)=>Ef r (j+1) m (.leaf r j ⟨h.ver+1,h.iv+1,none,.ro (.s sz es)⟩::σ)
     |_=>Ef r (j+1) m σ
   |_=>Ef r (j+1) m σ
def Fv :List Nat->VS->VS
 |[],σ=>σ
 | r::rs,σ=>match get σ (.meta_ r)with
   |some (.m k _)=>Fv rs (Ef r 0 k σ)
   |_=>Fv rs σ
def H6 (fz:List (Nat×List Nat))(id:Nat)(σ:VS):VS:=
 match lk fz id with
 |some rs=>Fv rs σ
 |none=>σ
open Classical in
theorem aP.freeze {g:Gm}{G:Gh}{a:Act}{w:World}(hS:aP cx G g a w)(hz:∀ b,cx.ro b){r j:Nat}{h:Hv}{l:L}(hh:g (.leaf r j)=some (.h h))(hc:h.c=.own l):
 de cx ((W.leaf r j ⟨h.ver+1,h.iv+1,none,.ro l⟩).app g) a w:=by
 have hr:∀ d,(W.leaf r j ⟨h.ver+1,h.iv+1,none,.ro l⟩).app g (.reg d)=g (.reg d):=fun d=>by simp[W.app]
 have hm:∀ d,(W.leaf r j ⟨h.ver+1,h.iv+1,none,.ro l⟩).app g (.meta_ d)=g (.meta_ d):=fun d=>by simp[W.app]
 have hl:∀ r' j',(W.leaf r j ⟨h.ver+1,h.iv+1,none,.ro l⟩).app g (.leaf r' j')=if r'=r/\j'=j then some (.h ⟨h.ver+1,h.iv+1,none,.ro l⟩)else g (.leaf r' j'):=fun r' j'=>by simp[W.app]
 have hok:=hS.hok (av.2 hh);unfold cR at hok;rw[hc]at hok;obtain⟨m1,m2,m3⟩:=hok
 let G':Gh:={G with ow:=fun b=>if b∈G.fp r j then some .ro else G.ow b}
 have hfp:∀ b,b∈G.fp r j->G.ow b=some (.leaf r j):=fun b hb=>(m3 b hb).1
 have owo:∀ b t,G.ow b=some t->t≠ .leaf r j->G'.ow b=some t:=by
  intro b t e hn;simp only[G'];rw[if_neg (fun q=>by rw[hfp b q]at e;cases e;exact hn rfl)];exact e
 have st:Step g G w ((W.leaf r j ⟨h.ver+1,h.iv+1,none,.ro l⟩).app g) G' w:=by
  refine⟨fun r' j' h' e=>?_,fun b hb=>⟨owo b _ hb (by simp),rfl⟩,fun b hb=>⟨owo b _ hb (by simp),rfl⟩,fun _ _ h=>h⟩;by_cases c:r'=r/\j'=j
  ·obtain⟨rfl,rfl⟩:=c;refine⟨⟨h.ver+1,h.iv+1,none,.ro l⟩,av.2 (by rw[hl,if_pos ⟨rfl,rfl⟩]),.inr (.inr ?_)⟩;rw[av,hh]at e;cases e;simp
  ·exact⟨h',av.2 (by rw[hl,if_neg c];exact av.1 e),.inl ⟨rfl,rfl,fun _ _ _ _=>rfl⟩⟩
 have hlt:∀ b t,G'.ow b=some t->b<w.heap.size:=by
  intro b t e;simp only[G']at e;split at e
  ·rename_i q;exact hS.lt b _ (hfp b q)
  ·exact hS.lt b _ e
 have hrow:∀ b,b<cx.w0.heap.size->cx.fr b->G'.ow b=none\/G'.ow b=some .ro:=by
  intro b h1 h2;simp only[G'];split
  ·exact .inr rfl
  ·exact hS.frow b h1 h2
 refine⟨G',hS.defers,hS.tm,?_,?_,?_,?_,?_,hlt,hS.frame,hrow,?_,fun r x e=>by rw[hm];exact hS.aloc r x e,hS.afr,fun r1 r2 k1 k2 b o1 o2 h1 h2 h3=>hS.sep r1 r2 k1 k2 b o1 o2 h1 (by rw[<-hm];exact h2) (by rw[<-hm];exact h3),hS.newb,fun b _=>hz b⟩
 rotate_left 5
 ·intro r' j' h' e;rw[av,hl]at e;by_cases c:r'=r/\j'=j
  ·rw[if_pos c]at e;cases e;exact dj.none
  ·rw[if_neg c]at e;exact hS.anc r' j' h' (av.2 e)
 ·intro d y hy;rw[hr]at hy;obtain⟨e1,y',e2,e3⟩:=hS.reg d y hy;exact⟨e1,y',e2,cg.step hS st _ _ e3⟩
 ·intro r' k hk;rw[hm]at hk;obtain⟨b,off,cur,ty,f1,f2,f3⟩:=hS.boxes r' k hk;exact⟨b,off,cur,ty,f1,owo b _ f2 (by simp),f3⟩
 ·intro r' j' y hy;rw[hl]at hy;by_cases c:r'=r/\j'=j
  ·rw[if_pos c]at hy;cases hy;obtain⟨rfl,rfl⟩:=c;obtain⟨h2,k,box,e1,e2,e3,e4⟩:=hS.leaf _ _ _ hh;refine⟨_,k,box,rfl,by rw[hm];exact e2,e3,?_⟩;refine⟨G.fp r' j',m1,fun b hb=>?_⟩;simp only[G'];rw[if_pos hb]
  ·rw[if_neg c]at hy;obtain⟨h2,k,box,e1,e2,e3,e4⟩:=hS.leaf _ _ _ hy;refine⟨h2,k,box,e1,by rw[hm];exact e2,e3,?_⟩;unfold cR at e4 ⊢;split at e4
   ·obtain⟨n1,n2,n3⟩:=e4;refine⟨n1,n2,fun b hb=>⟨owo b _ (n3 b hb).1 ?_,(n3 b hb).2⟩⟩;intro q;cases q;exact c ⟨rfl,rfl⟩
   ·obtain⟨S,n1,n2⟩:=e4;exact⟨S,n1,fun b hb=>owo b _ (n2 b hb) (by simp)⟩
   ·trivial
 ·intro r' y hy;rw[hm]at hy;exact hS.metas r' y hy
 ·intro r' b hb;obtain⟨k,hk⟩:=hS.noloc r' b hb;exact⟨k,by rw[hm];exact hk⟩
theorem nN (hz:∀ b,cx.ro b){a:Act}{w:World}{r:Nat}:∀ (m j:Nat) (σ:VS),de cx (get σ) a w->de cx (get (Ef r j m σ)) a w
 |0,_,_,h=>h
 | m+1,j,σ,h=>by
   unfold Ef;split
   ·rename_i hv e;split
    ·rename_i sz es hc;obtain⟨G,hG⟩:=h;exact nN hz m (j+1) _ (hG.freeze hz e hc)
    ·exact nN hz m (j+1) _ h
   ·exact nN hz m (j+1) _ h
theorem uI (hz:∀ b,cx.ro b){a:Act}{w:World}:∀ (rs:List Nat) (σ:VS),de cx (get σ) a w->de cx (get (Fv rs σ)) a w
 |[],_,h=>h
 | r::rs,σ,h=>by
   unfold Fv;split
   ·exact uI hz rs _ (nN hz _ _ _ h)
   ·exact uI hz rs _ h
theorem Ax {fz:List (Nat×List Nat)}(hz:fz≠[]->∀ b,cx.ro b){id:Nat}{σ:VS}{a:Act}{w:World}(h:de cx (get σ) a w):de cx (get (H6 fz id σ)) a w:=by
 unfold H6;split
 ·rename_i rs e;refine uI (hz ?_) rs σ h;intro q;subst q;cases e
 ·exact h
theorem aP.rereg {g:Gm}{G:Gh}{a:Act}{w:World}(hS:aP cx G g a w){d:Nat}{x:R}(hd:d<cx.n)(hx:cg (gl g) G w x (a.tmps.getD d undef)):
 aP cx G ((W.reg d x).app g) a w:=by
 have hl:∀ r j,(W.reg d x).app g (.leaf r j)=g (.leaf r j):=fun r j=>by simp[W.app]
 have hm:∀ r,(W.reg d x).app g (.meta_ r)=g (.meta_ r):=fun r=>by simp[W.app]
 have hgl:gl ((W.reg d x).app g)=gl g:=by funext r j;simp[gl,hl]
 refine⟨hS.defers,hS.tm,?_,?_,?_,?_,?_,hS.lt,hS.frame,hS.frow,fun r j h e=>hS.anc r j h (by rw[<-hgl];exact e),fun r x e=>by rw[hm];exact hS.aloc r x e,hS.afr,fun r1 r2 k1 k2 b o1 o2 h1 h2 h3=>hS.sep r1 r2 k1 k2 b o1 o2 h1 (by rw[<-hm];exact h2) (by rw[<-hm];exact h3),hS.newb,hS.roX⟩
 ·intro e y he;rw[hgl];simp only[W.app]at he;split at he
  ·rename_i h;cases h;cases he;exact⟨hd,x,rfl,hx⟩
  ·exact hS.reg e y he
 ·intro r k hr;rw[hm]at hr;exact hS.boxes r k hr
 ·intro r j y hy;rw[hl]at hy;obtain⟨h,k,box,e1,e2,e3,e4⟩:=hS.leaf r j y hy;exact⟨h,k,box,e1,by rw[hm];exact e2,e3,e4⟩
 ·intro r y hy;rw[hm]at hy;exact hS.metas r y hy
 ·intro r b hb;obtain⟨k,hk⟩:=hS.noloc r b hb;exact⟨k,by rw[hm];exact hk⟩
def Ni (O:yl)(t:Nat)(σ:VS)(k:VS->Prop):Prop:=
 match get σ (.meta_ t)with
 |some _=>k σ
 | none=>match get σ (.reg t)with
   | some (.r (.one (.vn r j ver iv p lo m)))=>match get σ (.leaf r j)with
     | some (.h h)=>match h.c with
       | .own (.s sz es)=>match eD h ver iv with
         | true=>O.pr (fun _=>eY (.s sz es) p=some (1,O.ps (.s sz es) p)/\bT (O.ps (.s sz es) p))/\
           k (.reg t (.one (.vw t 0 0 0 m)):: .root t false [⟨0,0,none,.own (.s 1 (O.sub (O.ps (.s sz es) p) lo m))⟩]:: .gap r j ⟨h.ver,h.iv+1,h.org,.own (.s sz (O.up (.s sz es) p [.g]))⟩::σ)
         |false=>k σ
       |_=>k σ
     |_=>k σ
   |_=>k σ
def IY (O:yl):List Nat->VS->(VS->Prop)->Prop
 |[],σ,k=>k σ
 |t::ts,σ,k=>Ni O t σ fun σ'=>IY O ts σ' k
def IX (O:yl)(fz:List (Nat×List Nat))(id:Nat)(σ:VS)(k:VS->Prop):Prop:=
 match lk fz id with
 |some rs=>IY O rs σ k
 |none=>k σ
theorem G7 {a:Act}{w:World}{t:Nat}{σ:VS}{k:VS->Prop}(h:Ni ah t σ k)(hS:de cx (get σ) a w):∃ σ',k σ'/\de cx (get σ') a w:=by
 unfold Ni at h;split at h
 ·exact⟨σ,h,hS⟩
 rename_i hm;split at h
 case h_2=>exact⟨σ,h,hS⟩
 rename_i r j ver iv p lo m hr;split at h
 case h_2=>exact⟨σ,h,hS⟩
 rename_i h0 hh;split at h
 case h_2=>exact⟨σ,h,hS⟩
 rename_i sz es hc;split at h
 case h_2=>exact⟨σ,h,hS⟩
 rename_i hgd;obtain⟨⟨hgs,hsc⟩,hk⟩:=h;have hgs:eY (.s sz es) p=some (1,jy (.s sz es) p):=hgs;have hsc:bT (jy (.s sz es) p):=hsc;obtain⟨G,hG⟩:=hS;obtain⟨hd,r0,e0,hx⟩:=hG.reg t _ hr;cases e0;have hx:eZ (gl (get σ)) G w (.vn r j ver iv p lo m) (a.tmps.getD t undef):=hx;have q1:=av.2 hh;obtain⟨rec,o0,bb,oo,hvv,S,n1,n2,n3,n4,n5,n6,n7,n8⟩:=nested hG hx q1 hgd hc hgs;obtain⟨S2,k1,knd,k2⟩:=n6.own n7 n5 hsc (lD (lC hsc));obtain⟨G1,hS1,z⟩:=hG.shedN hh hc n1 n2 n3 n4 k2;have hml:((((jy (.s sz es) p).drop lo).take m)).length=m:=by simp only[VK,VR];omega
 obtain⟨G2,hS2,v1,_,_,_⟩:=hS1.newRoot' (d:=t) (by simpa[W.app]using hm) false [⟨0,0,none,.own (.s 1 (((jy (.s sz es) p).drop lo).take m))⟩] w rfl rfl rfl (VJ _) (fun _ _ _=>rfl) (fun _=>a.tmps.getD t undef) (fun _=>S2)
  (fun i h e=>by
    cases i with
    |succ i=>simp at e
    | zero=>
      simp at e;subst e;refine⟨k1,knd,fun b hb=>?_⟩;obtain⟨u,J,z1,z2,z3⟩:=z b hb;refine⟨u,.inr ⟨r,J,z1,?_⟩⟩;intro h' l' p1 p2;rw[av]at p1;simp[W.app,z3,z2]at p1)
  (fun i h e=>by
    cases i with
    |succ i=>simp at e
    |zero=>simp at e;subst e;exact dj.none)
  (fun i i' hi hi' hne=>by simp at hi hi';omega) 0 0 (fun e=>by cases e)
 refine⟨_,hk,G2,?_⟩;refine hS2.rereg hd ?_;simp only[cg];refine⟨⟨0,0,none,.own (.s 1 (((jy (.s sz es) p).drop lo).take m))⟩,av.2 (by simp[W.app]),VJ _,fun _ sz' es' e=>?_⟩;cases e;rw[v1];have:=cF.full k1;rw[hml]at this;exact⟨by omega,this⟩
theorem A6 {a:Act}{w:World}:∀ {ts:List Nat} {σ:VS} {k:VS->Prop},IY ah ts σ k->de cx (get σ) a w->∃ σ',k σ'/\de cx (get σ') a w
 |[],σ,k,h,hS=>⟨σ,h,hS⟩
 | t::ts,σ,k,h,hS=>by
   obtain⟨σ1,h1,hS1⟩:=G7 (k:=fun σ'=>IY ah ts σ' k) h hS;exact A6 h1 hS1
theorem A5 {fz:List (Nat×List Nat)}{id:Nat}{a:Act}{w:World}{σ:VS}{k:VS->Prop}(h:IX ah fz id σ k)(hS:de cx (get σ) a w):∃ σ',k σ'/\de cx (get σ') a w:=by
 unfold IX at h;split at h
 ·exact A6 h hS
 ·exact⟨σ,h,hS⟩
end
end Go.V
namespace Go.V
section
variable (T : wd) (O : yl) (ct : D8) (n : Nat) (an : List Nat) (fz : List (Nat × List Nat))
def Cg :List Oper->Option (Nat×Nat×Nat)
 | [o1,o2]=>match o1.op with
   | .next (.tmp it) false=>match o2.op with
     | .extract (.tmp d) 0=>match o1.dst,o1.guard,o2.dst,o2.guard with
       | some d1,none,some d2,none=>match WR d d1 with
         |true=>some (it,d1,d2)
         |false=>none
       |_,_,_,_=>none
     |_=>none
   |_=>none
 |_=>none
def Ho (it d1 d2:Nat)(draw:Bool)(σ:VS)(K:VS->Prop):Prop:=
 match draw with
 |true=>False
 | false=>match get σ (.reg it)with
   | some (.r (.one (.it es vs)))=>(pK it σ&&(Zn d1 n&&(Zn d2 n&&(!Nat.beq d1 it&& !Nat.beq d2 it))))=true/\
      (∀ k:Int,O.pr (fun _=>k∈jm es/\vs.length<es.length)->K (.reg d2 (.k true):: .reg d1 (.one .un):: .reg it (.one (.it es (k::vs)))::σ))/\
      (O.pr (fun _=>∀ k∈jm es,k∈vs)->K (.reg d2 (.k false):: .reg d1 (.one .un)::σ))
   |_=>False
def j6 :Code->(Ex->VS->Prop)->VS->Prop
 | .skip,Q,σ=>Q .normal σ
 | .region id ops draw,Q,σ=>match Cg ops.toList with
   |some (it,d1,d2)=>Ho O n it d1 d2 draw σ (fun σ'=>Q .normal σ')
   | none=>yg T O ct n ops ops.toList σ [] fun σ' acc=>match draw with
     |true=>O.pr (fun _=>aV ops acc.reverse=true)/\IX O fz id (H6 fz id σ') (Q .normal)
     |false=>IX O fz id (H6 fz id σ') (Q .normal)
 | .seq x y,Q,σ=>j6 x (fun e σ'=>match e with
    | .normal=>j6 y Q σ'
    | .exit i=>Q (.exit i) σ'
    | .ret=>Q .ret σ') σ
 | .cond c x y,Q,σ=>(yK c .ret).wpU (get σ) [] fun _ b=>Fa b (fun _=>j6 x Q σ) (fun _=>j6 y Q σ)
 | .block id x,Q,σ=>j6 x (fun e σ'=>match e with
    | .normal=>Q .normal σ'
    | .exit i=>match WR i id with
      |true=>Q .normal σ'
      |false=>Q (.exit i) σ'
    | .ret=>Q .ret σ') σ
 | .loop x,Q,σ=>∃ (regs roots:List Nat) (α:Type) (ov:α->List W) (rel:α->Prop) (μ:α->Nat),(∃ s0,rel s0/\NZ an σ (xR σ regs roots (ov s0)))/\
    ∀ s,rel s->j6 x (fun e σ'=>match e with
     | .normal=>∃ s',rel s'/\μ s'<μ s/\NZ an σ' (xR σ regs roots (ov s'))
     | .exit i=>Q (.exit i) σ'
     | .ret=>Q .ret σ') (xR σ regs roots (ov s))
 | .exit id,Q,σ=>Q (.exit id) σ
 | .ret,Q,σ=>Q .ret σ
 | .scope x,Q,σ=>j6 x Q σ
 |_,_,_=>False
def Fq {α:Type}(O:yl)(ti:TI)(k:DV->List (Nat×Nat)->Rd α)(as:List A):Rd α:=
 iR O ti.slots as fun lts srcs=>if ti.agg then k (.agg (lts.map (·.1))) srcs else match lts with
  |[(l,_)]=>k (.one l) srcs
  |_=>.fail
def GY {α:Type}(t:TypeId)(rv:ResultVar)(k:DV->List (Nat×Nat)->Rd α):Rd α:=
 match lk T.tyL t with
 |none=>.fail
 | some ti=>match rv with
   | .tmp x=>AX x fun r=>match r with
     | .one a=>if ti.agg then .fail else Fq O ti k [a]
     | .agg as=>if ti.agg then Fq O ti k as else .fail
     | .tup _=>.fail
   | .cell x t'=>if t'==t then AX x fun r=>match r with
     | .one (.pt r j)=>eH O r j ti.zero.length (Fq O ti k)
     |_=>.fail
     else .fail
def vC {α:Type}:List TypeId->List ResultVar->(List DV->List (Nat×Nat)->Rd α)->Rd α
 |[],[],k=>k [] []
 |t::ts,rv::rvs,k=>GY T O t rv fun d src=>vC ts rvs fun ds srcs=>k (d::ds) (src++srcs)
 |_,_,_=>.fail
def yf (ts:List TypeId)(rvs:List ResultVar)(σ:VS)(res:List DV):Prop:=
 (vC T O ts rvs fun ds srcs=>if aZ srcs then .req (O.pr fun _=>ds=res) (.ret ())else .fail).wpU (get σ) [] fun _ _=>True
end
section
variable {P : Program} {T : wd} {cx : Cx} {g : Gm}
theorem B9 {α:Type}{r j:Nat}{h0:Hv}{k' k:A->Rd α}{ls:List Loc}{x:α}(hk:∀ a ls,(k' a).Runs g ls x->(k a).Runs g ls x)(h:(vd r j h0 k').Runs g ls x):(vd r j h0 k).Runs g ls x:=by
 unfold vd at h ⊢;split at h
 ·split at h
  ·refine cC (fun v ls h=>?_) h;split at h
   ·split at h
    ·split at h
     ·rename_i hb;rw[if_pos hb];exact hk _ _ h
     ·rename_i hb;rw[if_neg hb];exact hk _ _ h
    ·exact hk _ _ h
   ·exact hk _ _ h
  ·exact hk _ _ h
 ·exact hk _ _ h
 ·exact hk _ _ h
theorem jW {α:Type}{r:Nat}:∀ {m j:Nat} {k' k:List A->Rd α} {ls:List Loc} {x:α},(∀ as ls,(k' as).Runs g ls x->(k as).Runs g ls x)->(di r j m k').Runs g ls x->(di r j m k).Runs g ls x
 |0,j,k',k,ls,x,hk,h=>hk _ _ h
 |m+1,j,k',k,ls,x,hk,h=>cC (fun v ls h=>B9 (fun a ls h=>jW (fun as ls h=>hk _ _ h) h) h) h
theorem Ey (hT:bp P T){α:Type}{t:TypeId}{rv:ResultVar}{k' k:DV->List (Nat×Nat)->Rd α}{ls:List Loc}{x:α}(hk:∀ d s ls,(k' d s).Runs g ls x->(k d s).Runs g ls x)(h:(GY T ah t rv k').Runs g ls x):(GX P t rv k).Runs g ls x:=by
 revert h
 unfold GY GX;rcases hT.ty t with e|⟨ti,e,e2⟩
 ·simp only[e];exact fun h=>h.elim
 ·simp only[e,e2];have hf:∀ (as:List A) (ls:List Loc),(Fq ah ti k' as).Runs g ls x->(dC ti.slots as fun lts srcs=>if ti.agg then k (.agg (lts.map (·.1))) srcs else match lts with
   |[(l,_)]=>k (.one l) srcs
   |_=>.fail).Runs g ls x:=by
   intro as ls h;unfold Fq at h;rw[hK]at h;refine jJ ?_ h;intro l src ls h;by_cases ha:ti.agg=true
   ·rw[if_pos ha]at h ⊢;exact hk _ _ _ h
   ·rw[if_neg ha]at h ⊢;split at h
    ·exact hk _ _ _ h
    ·exact h.elim
  intro h;cases rv with
  | tmp y=>
    refine vA ?_ h;intro r ls h;cases r with
    | one a=>
      simp only at h ⊢;split at h
      ·exact h.elim
      ·rename_i hb;rw[if_neg hb];exact hf _ _ h
    | agg as=>
      simp only at h ⊢;split at h
      ·rename_i hb;rw[if_pos hb];exact hf _ _ h
      ·exact h.elim
    |tup rs=>exact h
  | cell y t'=>
    refine cd (fun ls h=>?_) h;refine vA ?_ h;intro r ls h;cases r with
    | one a=>cases a with
      | pt r j=>
        simp only[gE]at h;exact jW (fun as ls h=>hf as ls h) h
      |_=>exact h
    |agg as=>exact h
    |tup rs=>exact h
theorem gH (hT:bp P T){α:Type}:∀ {ts:List TypeId} {rvs:List ResultVar} {k' k:List DV->List (Nat×Nat)->Rd α} {ls:List Loc} {x:α},(∀ d s ls,(k' d s).Runs g ls x->(k d s).Runs g ls x)->(vC T ah ts rvs k').Runs g ls x->(vB P ts rvs k).Runs g ls x
 |[],[],k',k,ls,x,hk,h=>hk _ _ _ h
 |[],_::_,k',k,ls,x,hk,h=>h
 |_::_,[],k',k,ls,x,hk,h=>h
 |t::ts,rv::rvs,k',k,ls,x,hk,h=>Ey hT (fun d s ls h=>gH hT (fun d s ls h=>hk _ _ _ h) h) h
theorem AR {ops:List Oper}{it d1 d2:Nat}(h:Cg ops=some (it,d1,d2)):∃ o1 o2,ops=[o1,o2]/\o1.op=.next (.tmp it) false/\o1.dst=some d1/\o1.guard=none/\o2.op=.extract (.tmp d1) 0/\o2.dst=some d2/\o2.guard=none:=by
 unfold Cg at h;split at h
 ·rename_i o1 o2;split at h
  ·rename_i it' e1;split at h
   ·rename_i d e2;split at h
    ·rename_i e3 e4 e5 e6;split at h
     ·rename_i hb;cases h;cases V0 hb;exact⟨o1,o2,rfl,e1,e3,e4,e2,e5,e6⟩
     ·cases h
    ·cases h
   ·cases h
  ·cases h
 ·cases h
theorem cv {fz:List (Nat×List Nat)}(hz:fz≠[]->∀ b,cx.ro b)(hT:bp P T){ct:D8}(hct:xu P ct)(hm:P.follows .mixedOrders=true){n:Nat}(hn:n=cx.n){an:List Nat}(ha:∀ r x,cx.aloc r=some x->r∈an):∀ (c:Code) (Q:Ex->VS->Prop) (σ:VS) (a:Act) (w:World),j6 T ah ct n an fz c Q σ->de cx (get σ) a w->
 c.wp P (fun e a' w'=>∃ ex σ',e=Lu ex/\Q ex σ'/\de cx (get σ') a' w') a w
 | .skip,Q,σ,a,w,h,hS=>wp_skip ⟨.normal,σ,rfl,h,hS⟩
 | .region id ops draw,Q,σ,a,w,h,hS=>by
   unfold j6 at h;split at h
   ·rename_i it d1 d2 hq;unfold Ho at h;split at h
    ·exact h.elim
    split at h
    case h_2=>exact h.elim
    rename_i es vs hit;obtain⟨hb,hT',hF'⟩:=h;simp only[AI,XE]at hb;obtain⟨b1,b2,b3,b4,b5⟩:=hb;obtain⟨o1,o2,e0,p1,p2,p3,p4,p5,p6⟩:=AR hq;subst hn;refine wp_region_list ?_;rw[e0];refine Ch hS hit b1 (by simpa[Zx]using b2) (by simpa[Zx]using b3) (XJ b4) (XJ b5) p1 p2 p3 p4 p5 p6 ?_ ?_
    ·intro k hk hl a' w' hs;exact⟨.normal,_,rfl,hT' k ⟨hk,hl⟩,hs⟩
    ·intro hall a' w' hs;exact⟨.normal,_,rfl,hF' hall,hs⟩
   obtain⟨xs,σ',h1,h2⟩:=lM hT hct _ _ _ _ h;subst hn;cases draw with
   | false=>exact wp_region_list (h1.text hS (fun a' w' hs=>by
      obtain⟨σ2,k1,k2⟩:=A5 h2 (Ax hz hs);exact⟨.normal,σ2,rfl,k1,k2⟩))
   | true=>
     obtain⟨h2,h3⟩:=h2;refine AY hm h1 ?_ (fun a' w' hs=>by
      obtain⟨σ2,k1,k2⟩:=A5 h3 (Ax hz hs);exact⟨.normal,σ2,rfl,k1,k2⟩) (fun a w h=>h.drawn _) hS
     have h2:aV ops _=true:=h2
     simpa using h2
 | .seq x y,Q,σ,a,w,h,hS=>by
   refine wp_seq (Xq ?_ (cv hz hT hct hm hn ha x _ σ a w h hS));rintro e a' w' ⟨ex,σ',rfl,hq,hs⟩;cases ex with
   |normal=>exact cv hz hT hct hm hn ha y Q σ' a' w' hq hs
   |exit i=>exact⟨.exit i,σ',rfl,hq,hs⟩
   |ret=>exact⟨.ret,σ',rfl,hq,hs⟩
 | .cond c x y,Q,σ,a,w,h,hS=>by
   obtain⟨G,hG⟩:=id hS;obtain⟨ls,b,t,h1,h2,_⟩:=Rd.wpU_runs h;obtain⟨b',ls',e,h3⟩:=nH hG h1;refine wp_cond e ?_;simp only[Rd.Runs]at h3;obtain⟨_,rfl⟩:=h3;cases b with
   |true=>exact cv hz hT hct hm hn ha x Q σ a w h2 hS
   |false=>exact cv hz hT hct hm hn ha y Q σ a w h2 hS
 | .block id x,Q,σ,a,w,h,hS=>by
   refine wp_block (Xq ?_ (cv hz hT hct hm hn ha x _ σ a w h hS));rintro e a' w' ⟨ex,σ',rfl,hq,hs⟩;cases ex with
   |normal=>exact⟨.normal,σ',rfl,hq,hs⟩
   | exit i=>
     simp only[Lu,Exit.inBlock];simp only at hq;split at hq
     ·rename_i e;rw[if_pos (V0 e)];exact⟨.normal,σ',rfl,hq,hs⟩
     ·rename_i e;rw[if_neg (XJ e)];exact⟨.exit i,σ',rfl,hq,hs⟩
   |ret=>exact⟨.ret,σ',rfl,hq,hs⟩
 | .loop x,Q,σ,a,w,h,hS=>by
   obtain⟨regs,roots,α,ov,rel,μ,⟨s0,hr0,hle0⟩,hround⟩:=h;refine wp_loop_ghost (fun s a w=>rel s/\de cx (get (xR σ regs roots (ov s))) a w) μ s0 ⟨hr0,hle0.sim ha hS⟩ ?_;rintro s a w ⟨hr,hs⟩;refine Xq ?_ (cv hz hT hct hm hn ha x _ _ a w (hround s hr) hs);rintro e a' w' ⟨ex,σ',rfl,hq,hs'⟩;cases ex with
   | normal=>
     obtain⟨s',k1,k2,k3⟩:=hq;exact⟨s',⟨k1,k3.sim ha hs'⟩,k2⟩
   |exit i=>exact⟨.exit i,σ',rfl,hq,hs'⟩
   |ret=>exact⟨.ret,σ',rfl,hq,hs'⟩
 | .exit id,Q,σ,a,w,h,hS=>wp_exit ⟨.exit id,σ,rfl,h,hS⟩
 | .ret,Q,σ,a,w,h,hS=>wp_ret ⟨.ret,σ,rfl,h,hS⟩
 | .scope x,Q,σ,a,w,h,hS=>by
   refine wp_scope_straight (Xq ?_ (cv hz hT hct hm hn ha x Q σ a w h hS));rintro e a' w' ⟨ex,σ',rfl,hq,hs⟩;cases ex with
   |normal=>exact⟨.normal,σ',rfl,hq,hs⟩
   |exit i=>exact⟨.exit i,σ',rfl,hq,hs⟩
   |ret=>exact⟨.ret,σ',rfl,hq,hs⟩
 | .rangeFunc _ _ _ _,Q,σ,a,w,h,hS=>h.elim
 | .label _,Q,σ,a,w,h,hS=>h.elim
 | .goto _,Q,σ,a,w,h,hS=>h.elim
 | .refuse _,Q,σ,a,w,h,hS=>h.elim
def H3 (T:wd)(O:yl)(ts:List TypeId)(rvs:List ResultVar)(res:List DV):Ex->VS->Prop
 | .normal,σ=>yf T O ts rvs σ res
 | .ret,σ=>yf T O ts rvs σ res
 | .exit _,_=>False
theorem ab {α:Type}{rel:α->Prop}{μ:α->Nat}{m:Nat}{le:α->Prop}(s:α)(h3:le s)(h1:rel s)(h2:μ s<m):∃ s,rel s/\μ s<m/\le s:=⟨s,h1,h2,h3⟩
end
end Go.V
namespace Go.V
def iG :L->L->Bool
 | .v (.int k _),.v (.int k' _)=>k==k'
 | .v (.bool _),.v (.bool _)=>true
 | .v (.string _),.v (.string _)=>true
 | .s sz _,.s sz' _=>sz==sz'
 |_,_=>false
def fE :ay->ay->Bool
 |[],[]=>true
 |z::zs,x::xs=>iG z x&&fE zs xs
 |_,_=>false
def Wf (z:ay)(es:aa):Prop:=∀ e∈es,fE z e=true
theorem qh :∀ {z e:ay},fE z e=true->e.length=z.length
 |[],[],_=>rfl
 |[],_::_,h=>by cases h
 |_::_,[],h=>by cases h
 | z::zs,x::xs,h=>by
   simp only[fE,AI]at h;simp[qh h.2]
theorem xI :∀ (o:Nat) {z e:ay},fE z e=true->fE (z.drop o) (e.drop o)=true
 |0,z,e,h=>h
 |o+1,[],[],h=>by simp[fE]
 |o+1,[],_::_,h=>by cases h
 |o+1,_::_,[],h=>by cases h
 | o+1,z::zs,x::xs,h=>by
   simp only[fE,AI]at h;exact xI o h.2
theorem xJ :∀ (m:Nat) {z e:ay},fE z e=true->fE (z.take m) (e.take m)=true
 |0,z,e,h=>by simp[fE]
 |m+1,[],[],h=>by simp[fE]
 |m+1,[],_::_,h=>by cases h
 |m+1,_::_,[],h=>by cases h
 | m+1,z::zs,x::xs,h=>by
   simp only[fE,AI]at h;simp only[List.take_succ_cons,fE,AI];exact⟨h.1,xJ m h.2⟩
theorem Wf.at {z:ay}{es:aa}(h:Wf z es){n:Nat}(hn:n<es.length):fE z (es.getD n [])=true:=by
 rw[If,IN hn];exact h _ (List.getElem_mem hn)
theorem Wf.nil {z:ay}:Wf z []:=fun _ h=>by cases h
theorem Wf.cons {z e:ay}{es:aa}(h:fE z e=true)(hs:Wf z es):Wf z (e::es):=by
 intro x hx;rcases VN.1 hx with rfl|hx
 ·exact h
 ·exact hs x hx
theorem Wf.append {z:ay}{es fs:aa}(h:Wf z es)(hs:Wf z fs):Wf z (es++fs):=by
 intro x hx;rcases BY.1 hx with hx|hx
 ·exact h x hx
 ·exact hs x hx
theorem Wf.take {z:ay}{es:aa}(h:Wf z es)(n:Nat):Wf z (es.take n):=fun x hx=>h x (List.mem_of_mem_take hx)
theorem Wf.drop {z:ay}{es:aa}(h:Wf z es)(n:Nat):Wf z (es.drop n):=fun x hx=>h x (List.mem_of_mem_drop hx)
theorem uF {es:aa}{i:Int}{t:ay}:∀ {z:ay} {j:Nat} {rest:ay},fE z rest=true->(es.getD i.toNat []).drop j=rest++t->gP ah es i j z=rest
 |[],j,[],_,_=>rfl
 |[],_,_::_,h,_=>by cases h
 |_::_,_,[],h,_=>by cases h
 | z::zs,j,x::xs,h,e=>by
   simp only[fE,AI]at h;have hx:(es.getD i.toNat []).getD j .g=x:=by
    have:(es.getD i.toNat [])[j]?=some x:=by
     have:=congrArg (fun l:ay=>l[0]?) e
     simpa[VU]using this
    rw[If,this];rfl
   have hr:(es.getD i.toNat []).drop (j+1)=xs++t:=by
    rw[<-WF,e];rfl
   have ih:=uF h.2 hr;cases z with
   | v z=>cases z with
     | int k n=>cases x with
       | v x=>cases x with
         | int k' n'=>
           have:k=k':=by simpa[iG]using h.1
           subst this;simp only[gP,ih]
           congr 3
           exact(show af es i j=_ by simp only[af,hx,Mu])
         |_=>simp[iG]at h
       |_=>simp[iG]at h
     | bool b=>cases x with
       | v x=>cases x with
         | bool b'=>
           simp only[gP,ih]
           congr 3
           exact(show oR es i j=_ by simp only[oR,hx,Tc])
         |_=>simp[iG]at h
       |_=>simp[iG]at h
     | string b=>cases x with
       | v x=>cases x with
         | string b'=>
           simp only[gP,ih]
           congr 3
           exact(show JX es i j=_ by simp only[JX,hx,Ux])
         |_=>simp[iG]at h
       |_=>simp[iG]at h
     |_=>simp[iG]at h
   | s sz es0=>cases x with
     | s sz' es'=>
       have:sz=sz':=by simpa[iG]using h.1
       subst this;simp only[gP,ih]
       congr 2
       exact(show aO es i j=_ by simp only[aO,hx,EK])
     |_=>simp[iG]at h
   |g=>simp[iG]at h
   |m _ _=>simp[iG]at h
theorem ip {z:ay}{es:aa}{i:Int}(hr:Wf z es)(h0:0<=i)(h1:i<es.length):0<=i/\i<es.length/\es.getD i.toNat []=gP ah es i 0 z:=
 ⟨h0,h1,(uF (t:=[]) (hr.at (by omega)) (by simp)).symm⟩
theorem gA {sz:Nat}{es:aa}{n j:Nat}:bL (.s sz es) [(n,j)]=(es[n]?).map (·,j):=rfl
theorem Cn {sz:Nat}{es:aa}{n j:Nat}:EN (.s sz es) [(n,j)]=af es n j:=by
 simp only[EN,NO,NP,af,oR,JX,BR,gA,V4,If];cases es[n]? with
 |none=>rfl
 | some e=>
   simp only[WA,Wk];cases e[j]? with
   |none=>rfl
   | some x=>cases x with
     |v x=>cases x<;>rfl
     |_=>rfl
theorem MW {sz:Nat}{es:aa}{n j:Nat}:NO (.s sz es) [(n,j)]=oR es n j:=by
 simp only[EN,NO,NP,af,oR,JX,BR,gA,V4,If];cases es[n]? with
 |none=>rfl
 | some e=>
   simp only[WA,Wk];cases e[j]? with
   |none=>rfl
   | some x=>cases x with
     |v x=>cases x<;>rfl
     |_=>rfl
theorem M1 {sz:Nat}{es:aa}{n j:Nat}:NP (.s sz es) [(n,j)]=JX es n j:=by
 simp only[EN,NO,NP,af,oR,JX,BR,gA,V4,If];cases es[n]? with
 |none=>rfl
 | some e=>
   simp only[WA,Wk];cases e[j]? with
   |none=>rfl
   | some x=>cases x with
     |v x=>cases x<;>rfl
     |_=>rfl
theorem M0 {sz:Nat}{es:aa}{n j:Nat}:jy (.s sz es) [(n,j)]=aO es n j:=by
 simp only[jy,aO,eY,gA,V4,If];cases es[n]? with
 |none=>rfl
 | some e=>
   simp only[WA,Wk];cases e[j]? with
   |none=>rfl
   |some x=>cases x<;>rfl
theorem I8 :ah.pi=EN:=rfl
theorem I7 :ah.pb=NO:=rfl
theorem Ja :ah.pt=NP:=rfl
theorem I9 :ah.ps=jy:=rfl
theorem I4 :ah.gi=af:=rfl
theorem I3 :ah.gb=oR:=rfl
theorem I6 :ah.gt=JX:=rfl
theorem I5 :ah.gs=aO:=rfl
theorem As {sz:Nat}{es:aa}{n o:Nat}:∀ {z:ay} {j:Nat},je ah (.s sz es) [(n,o)] j z=gP ah es n (o+j) z
 |[],j=>rfl
 | z::zs,j=>by
   have ih:je ah (.s sz es) [(n,o)] (j+1) zs=gP ah es n (o+j+1) zs:=As;cases z with
   |v x=>cases x<;>simp only[je,gP,sV,I8,I7,Ja,I4,I3,I6,Cn,MW,M1,ih]
   |s a b=>simp only[je,gP,sV,I9,I5,M0,ih]
   |g=>simp only[je,gP,ih]
   |m _ _=>simp only[je,gP,ih]
theorem vH {z z0:ay}{sz:Nat}{es:aa}{n o:Nat}(hr:Wf z0 es)(hn:n<es.length)(hz:(z0.drop o).take z.length=z)(ho:o+z.length<=z0.length):
 ∃ rec o',bL (.s sz es) [(n,o)]=some (rec,o')/\o'+z.length<=rec.length/\(rec.drop o').take z.length=je ah (.s sz es) [(n,o)] 0 z:=by
 have hf:=hr.at hn;have e1:es[n]?=some (es.getD n []):=by rw[If,IN hn];rfl
 refine⟨es.getD n [],o,by rw[gA,e1];rfl,?_,?_⟩
 ·rw[qh hf];exact ho
 ·have hf2:fE z (((es.getD n []).drop o).take z.length)=true:=by
   have:=xJ z.length (xI o hf);rw[hz]at this;exact this
  rw[As]
  symm
  exact uF (t:=((es.getD n []).drop o).drop z.length) hf2 (by rw[VL,V4];exact(V2 _ _).symm)
end Go.V
namespace Go.V
inductive Ty where
 |int (k:IntKind)
 |bool
 |str
 |sl (fs:List Ty)
mutual
def cz :Ty->L->Prop
 | .int k,.v (.int k' n)=>k'=k/\k.has n
 | .bool,.v (.bool _)=>True
 | .str,.v (.string s)=>s.size<=maxLen
 | .sl fs,.s sz es=>sz=fs.length/\es.length<=maxLen/\∀ e∈es,ce fs e
 |_,_=>False
def ce :List Ty->ay->Prop
 |[],[]=>True
 |t::ts,l::ls=>cz t l/\ce ts ls
 |_,_=>False
end
def shape (P:Program):Nat->TypeId->Option (List Ty)
 |0,_=>none
 | k+1,t=>
   let r:Option (List Ty):=match P.underlying t with
    |some (.int kd)=>some [.int kd]
    |some .bool=>some [.bool]
    |some .string=>some [.str]
    | some (.slice e)=>match shape P k e with
      |some (f::fs)=>if P.cellsOf e=(f::fs).length then some [.sl (f::fs)]else none
      |_=>none
    | some (.struct fs)=>(fs.toList.foldl (fun acc fd=>match acc,shape P k fd.type with
       |some acc,some ts=>if fd.offset=acc.length/\P.cellsOf fd.type=ts.length then some (acc++ts)else none
       |_,_=>none) (some []))
    |_=>none
   match r with
   |some ts=>if P.cellsOf t=ts.length then some ts else none
   |none=>none
theorem nF :∀ {ts us:List Ty} {r s:ay},ce ts r->ce us s->ce (ts++us) (r++s)
 |[],us,[],s,_,h2=>h2
 |[],_,_::_,_,h,_=>by simp[ce]at h
 |_::_,_,[],_,h,_=>by simp[ce]at h
 | t::ts,us,l::ls,s,h,h2=>by
   simp only[ce,List.cons_append]at h ⊢;exact⟨h.1,nF h.2 h2⟩
section
variable {P : Program} {w : World}
theorem DZ {sz:Nat}{c:ay->Prop}:∀ (len:Nat) (l:List Value),l.length=len*sz->(∀ i,i<len->∃ rec S,ak w rec ((l.drop (i*sz)).take sz) S/\c rec)->
 ∃ es S,es.length=len/\bg w sz es l S/\∀ e∈es,c e
 |0,l,hl,_=>⟨[],[],rfl,by simp only[bg];exact⟨WC (by simpa using hl),trivial⟩,fun e h=>by cases h⟩
 | len+1,l,hl,h=>by
   obtain⟨rec,S,h1,h2⟩:=h 0 (by omega);have hsz:sz<=l.length:=by rw[hl,VX];omega
   obtain⟨es,T,k1,k2,k3⟩:=DZ (sz:=sz) (c:=c) len (l.drop sz) (by rw[VR,hl,VX];omega) (fun i hi=>by
    obtain⟨rec,S,h1,h2⟩:=h (i+1) (by omega);refine⟨rec,S,?_,h2⟩;rw[WF];rw[show sz+i*sz=(i+1)*sz from by rw[VX];omega];exact h1)
   refine⟨rec::es,S++T,by simp[k1],?_,?_⟩
   ·simp only[bg];refine⟨l.take sz,l.drop sz,S,T,(V2 _ _).symm,by simp;omega,by simpa using h1,k2,rfl⟩
   ·intro e he;rcases VN.1 he with rfl|he
    ·exact h2
    ·exact k3 e he
theorem uv {a:Addr}{n:Nat}{cs:List Value}(h:w.cells? 0 a n=some cs):cs.length=n/\∀ k,k<n->w.cell? (a.add k)=cs[k]?:=by
 unfold World.cells? at h;rw[if_pos (No _)]at h;have hl:=mapM_some_length h;refine⟨by simpa using hl,fun k hk=>mapM_some_get h k k (by simp[hk])⟩
theorem add_add' (a:Addr)(ha:a.spot=none)(i k:Nat):(a.add i).add k=⟨a.block,a.off+i+k,none⟩:=by
 obtain⟨b,o,s⟩:=a;simp only at ha;subst ha;unfold Addr.add;split<;>split<;>simp_all<;>omega
theorem mi {α:Type}{f:Option (List Ty)->α->Option (List Ty)}(hf:∀ x,f none x=none):∀ (l:List α),l.foldl f none=none
 |[]=>rfl
 |x::l=>by rw[Y0,hf];exact mi hf l
theorem pD {H:Type}{enc:TypeId×Value->H}:∀ (k:Nat) (t:TypeId) (ts:List Ty),shape P k t=some ts->∀ (fuel:Nat) (cs:List Value) (x:DataW H×List MemPlace),XH enc P w 0 (fun _=>true) true fuel t cs=some x->
 ∃ rec S,ak w rec cs S/\ce ts rec
 |0,t,ts,hs,_,_,_,_=>by simp[shape]at hs
 |k+1,t,ts,hs,0,_,_,h=>by simp[XH]at h
 | k+1,t,ts,hs,fuel+1,cs,x,h=>by
   simp only[shape]at hs;have hcell:P.cellsOf t=ts.length:=by
    split at hs
    ·rename_i r _;split at hs
     ·rename_i hc;cases hs;exact hc
     ·cases hs
    ·cases hs
   unfold XH at h;cases hu:P.underlying t with
   |none=>simp[hu]at hs
   | some d=>
     simp only[hu]at hs h;cases d with
     | int kd=>
       have:ts=[.int kd]:=by
        simp only at hs;split at hs
        ·cases hs;rfl
        ·cases hs
       subst this
       match cs,h with
       | [.int k' n],h=>
         simp only at h;split at h
         ·rename_i hc;obtain⟨rfl,hwf⟩:=hc;simp only[Lit.wf,AI,decide_eq_true_eq]at hwf;exact⟨[.v (.int k' n)],[],by simp[ak,bC,scal],by simp only[ce,cz];exact⟨⟨trivial,hwf⟩,trivial⟩⟩
         ·cases h
     | bool=>
       have:ts=[.bool]:=by
        simp only at hs;split at hs
        ·cases hs;rfl
        ·cases hs
       subst this
       match cs,h with
       |[.bool b],h=>exact⟨[.v (.bool b)],[],by simp[ak,bC,scal],by simp[ce,cz]⟩
     | string=>
       have:ts=[.str]:=by
        simp only at hs;split at hs
        ·cases hs;rfl
        ·cases hs
       subst this
       match cs,h with
       | [.string b],h=>
         simp only at h;split at h
         ·rename_i hc;exact⟨[.v (.string b)],[],by simp[ak,bC,scal],by simp only[ce,cz];exact⟨hc,trivial⟩⟩
         ·cases h
     | slice e=>
       simp only at hs;cases he:shape P k e with
       |none=>simp[he]at hs
       | some fs=>
         cases fs with
         |nil=>simp[he]at hs
         | cons f fs=>
           simp only[he]at hs;split at hs
           ·rename_i r hr;split at hr
            ·rename_i hce;cases hr;split at hs
             ·cases hs
              match cs,h with
              | [.slice none 0 0],h=>
                refine⟨[.s (f::fs).length []],[],?_,?_⟩
                ·simp only[ak,bC];exact⟨_,[],[],[],rfl,⟨none,0,0,rfl,rfl,VJ _,No _,.inl ⟨rfl,rfl⟩⟩,⟨rfl,rfl⟩,rfl⟩
                ·simp only[ce,cz];exact⟨⟨trivial,No _,fun e h=>by cases h⟩,trivial⟩
              | [.slice (some a) len cap],h=>
                simp only at h;split at h
                ·rename_i hb;obtain⟨_,hlc,hcm⟩:=hb;simp only[if_true,VO,Xk]at h;obtain⟨elems,hel,rest,hrest,_⟩:=h;have hsz:P.cellsOf e=(f::fs).length:=hce;have hszp:0<P.cellsOf e:=by rw[hsz];simp
                 have hat:∀ i,i<cap->∃ ci y,w.cells? 0 (a.add (i*P.cellsOf e)) (P.cellsOf e)=some ci/\XH enc P w 0 (fun _=>true) true fuel e ci=some y:=by
                  intro i hi;rcases WM i len with c|c
                  ·have:=mapM_some_get hel i i (XX c);have hl:=mapM_some_length hel;simp only[YQ]at hl;rw[IN (by omega)]at this;simp only[Xk]at this;obtain⟨ci,h1,h2⟩:=this;exact⟨ci,_,h1,h2⟩
                  ·have:=mapM_some_get hrest (i-len) (i-len) (XX (by omega));have hl:=mapM_some_length hrest;simp only[YQ]at hl;rw[IN (by omega)]at this;simp only[Xk]at this;obtain⟨ci,h1,h2⟩:=this;rw[show len+(i-len)=i from by omega]at h1;exact⟨ci,_,h1,h2⟩
                 by_cases hc0:cap=0
                 ·subst hc0;have:len=0:=by omega
                  subst this;refine⟨[.s (f::fs).length []],[],?_,?_⟩
                  ·simp only[ak,bC];exact⟨_,[],[],[],rfl,⟨some a,0,0,rfl,rfl,VJ _,No _,.inl ⟨rfl,rfl⟩⟩,⟨rfl,rfl⟩,rfl⟩
                  ·simp only[ce,cz];exact⟨⟨trivial,No _,fun e h=>by cases h⟩,trivial⟩
                 ·obtain⟨c0,y0,z1,z2⟩:=hat 0 (by omega);have z3:=(uv z1).2 0 hszp;have hz4:∃ v,w.cell? a=some v:=by
                   rw[Nat.zero_mul]at z3;have:(a.add 0).add 0=a:=rfl;rw[this]at z3;rw[z3];have:=(uv z1).1;exact⟨_,IN (by omega)⟩
                  obtain⟨v0,hv0⟩:=hz4;have hblk:∃ cur ty fz,w.heap[a.block]?=some (.cells cur ty fz)/\a.spot=none:=by
                   unfold X7 at hv0;split at hv0
                   ·rename_i cur ty fz hh;refine⟨cur,ty,fz,hh,?_⟩;cases hsp:a.spot with
                    |none=>rfl
                    |some s=>simp[hsp]at hv0
                   ·cases hv0
                  obtain⟨cur,ty,fz,hh,hsp⟩:=hblk;have hcellat:∀ j,w.cell? ⟨a.block,j,none⟩=cur[j]?:=by
                   intro j;unfold X7;simp[hh]
                  have hel2:∀ i,i<cap->∃ ci y,ci.length=P.cellsOf e/\(∀ kk,kk<P.cellsOf e->cur[a.off+i*P.cellsOf e+kk]?=ci[kk]?)/\XH enc P w 0 (fun _=>true) true fuel e ci=some y:=by
                   intro i hi;obtain⟨ci,y,h1,h2⟩:=hat i hi;obtain⟨h3,h4⟩:=uv h1;refine⟨ci,y,h3,fun kk hkk=>?_,h2⟩;rw[<-h4 kk hkk,add_add' a hsp,hcellat]
                  have hfit:a.off+cap*P.cellsOf e<=cur.size:=by
                   obtain⟨ci,y,h1,h2,_⟩:=hel2 (cap-1) (by omega);have:=h2 (P.cellsOf e-1) (by omega);rw[IN (by omega)]at this;have hlt:=(OF.1 this).1;have:cap*P.cellsOf e=(cap-1)*P.cellsOf e+P.cellsOf e:=by
                    rw[<-Zo];congr 1;omega
                   omega
                  have hle:len*P.cellsOf e<=cap*P.cellsOf e:=Wj _ hlc;obtain⟨es,S,k1,k2,k3⟩:=DZ (w:=w) (sz:=P.cellsOf e) (c:=ce (f::fs)) len ((cur.toList.drop a.off).take (len*P.cellsOf e)) (by simp only[VK,VR,Array.length_toList];omega) (fun i hi=>by
                   obtain⟨ci,y,h1,h2,h3⟩:=hel2 i (by omega);obtain⟨rec,S,r1,r2⟩:=pD k e (f::fs) he fuel ci y h3;refine⟨rec,S,?_,r2⟩;have:(((cur.toList.drop a.off).take (len*P.cellsOf e)).drop (i*P.cellsOf e)).take (P.cellsOf e)=ci:=by
                    apply List.ext_getElem?;intro kk;have hii:(i+1)*P.cellsOf e<=len*P.cellsOf e:=Wj _ hi;rw[Zo]at hii;simp only[List.getElem?_take,VU];by_cases ck:kk<P.cellsOf e
                    ·rw[if_pos ck,if_pos (by omega), <-h2 kk ck,V6];congr 1;omega
                    ·rw[if_neg ck,Wb (by omega)]
                   rw[this];exact r1)
                  refine⟨[.s (f::fs).length es],a.block::S,?_,?_⟩
                  ·simp only[ak,bC];refine⟨_,[],a.block::S,[],rfl,⟨some a,len,cap,rfl,k1.symm,hlc,hcm,.inr ⟨a.block,a.off,cur,ty,fz,S,?_,hh,by rw[<-hsz];exact hfit,by rw[<-hsz];exact k2,rfl⟩⟩,⟨rfl,rfl⟩,by simp⟩;obtain⟨b,o,s⟩:=a;simp only at hsp;subst hsp;rfl
                  ·simp only[ce,cz];exact⟨⟨trivial,by omega,k3⟩,trivial⟩
                ·cases h
             ·cases hs
            ·cases hr
           ·cases hs
     | struct fs=>
       simp only at hs;generalize hfold:(fs.toList.foldl (fun acc fd=>match acc,shape P k fd.type with
        |some acc,some ts=>if fd.offset=acc.length/\P.cellsOf fd.type=ts.length then some (acc++ts)else none
        |_,_=>none) (some []))=r at hs
       cases r with
       |none=>cases hs
       | some ts0=>
         simp only at hs;by_cases hc0:P.cellsOf t=ts0.length
         case neg=>rw[if_neg hc0]at hs;cases hs
         rw[if_pos hc0]at hs;cases hs;simp only at h;split at h
         ·rename_i hcl;simp only[VO]at h;obtain⟨xs,hxs,_⟩:=h;have key:∀ (l:List Field) (acc:List Ty) (xs:List (DataW H×List MemPlace)),l.foldl (fun acc fd=>match acc,shape P k fd.type with
           |some acc,some ts=>if fd.offset=acc.length/\P.cellsOf fd.type=ts.length then some (acc++ts)else none
           |_,_=>none) (some acc)=some ts->l.mapM (fun f=>XH enc P w 0 (fun _=>true) true fuel f.type ((cs.drop f.offset).take (P.cellsOf f.type)))=some xs->
           ∃ tl,ts=acc++tl/\∃ rec S,ak w rec ((cs.drop acc.length).take tl.length) S/\ce tl rec:=by
           intro l
           induction l with
           |nil=>intro acc xs h _;simp only[List.foldl_nil,Wn]at h;exact⟨[],by simp[h],[],[],by simp[ak],by simp[ce]⟩
           | cons fd l ih=>
             intro acc xs h hm;rw[Y0]at h;cases hsf:shape P k fd.type with
             |none=>simp only[hsf]at h;rw[mi (fun _=>rfl)]at h;cases h
             | some us=>
               simp only[hsf]at h;by_cases hc:fd.offset=acc.length/\P.cellsOf fd.type=us.length
               ·rw[if_pos hc]at h;simp only[List.mapM_cons,Option.bind_eq_bind,Xk]at hm;obtain⟨y,hy,ys,hys,_⟩:=hm;obtain⟨tl,e1,rec,S,r1,r2⟩:=ih (acc++us) ys h hys;obtain⟨rec0,S0,q1,q2⟩:=pD k fd.type us hsf fuel _ y hy;refine⟨us++tl,by rw[e1,List.append_assoc],rec0++rec,S0++S,?_,nF q2 r2⟩;have e2:(cs.drop acc.length).take (us++tl).length=(cs.drop fd.offset).take (P.cellsOf fd.type)++(cs.drop (acc++us).length).take tl.length:=by
                 rw[hc.1,hc.2,By,By,List.take_add,WF]
                rw[e2];exact q1.append r1
               ·rw[if_neg hc]at h;rw[mi (fun _=>rfl)]at h;cases h
          obtain⟨tl,e1,rec,S,r1,r2⟩:=key fs.toList [] xs hfold hxs;simp only[V5]at e1;subst e1;refine⟨rec,S,?_,r2⟩;rw[hcell]at hcl
          simpa[<-hcl]using r1
         ·cases h
     |_=>simp at hs
end
end Go.V
namespace Go.V
open Go.ChangeShapes Go.WideShapes Go.ChangeAt Go.RowKit
def CQ :Bool->ay->DV
 |true,rec=>.agg rec
 |false,[l]=>.one l
 |false,rec=>.agg rec
def yo :List (Bool×List Ty)->aa->List DV
 |(b,_)::sh,r::rs=>CQ b r::yo sh rs
 |_,_=>[]
def Ar :List (Bool×List Ty)->aa->Prop
 |[],[]=>True
 |(_,ts)::sh,r::rs=>ce ts r/\Ar sh rs
 |_,_=>False
def AF (P:Program)(t:TypeId):Bool:=match P.underlying t with
 |some (.struct _)=>true
 |_=>false
def zy (P:Program)(t:TypeId):Option (Bool×List Ty):=(shape P 12 t).map (AF P t, ·)
section
variable {P : Program} {w : World} {H : Type} {enc : TypeId × Value -> H}
theorem GU {t:TypeId}{b:Bool}{ts:List Ty}(hs:zy P t=some (b,ts)){base:Nat}{v:Value}(hok:Xh P w .any base t v){d:DataW H}{ps:List MemPlace} 
 (h:DataW.Trod enc P w 0 (fun _=>true) true t v d ps):∃ rec S,ce ts rec/\j9 w (CQ b rec) v S:=by
 unfold zy at hs;cases hsh:shape P 12 t with
 |none=>simp[hsh]at hs
 | some ts'=>
   simp only[hsh,WA,Wn,Yd]at hs;obtain⟨hb,rfl⟩:=hs;obtain⟨fuel,h⟩:=h;obtain⟨rec,S,h1,h2⟩:=pD _ _ _ hsh _ _ _ h;refine⟨rec,S,h2,?_⟩;unfold AF at hb;cases hu:P.underlying t with
   |none=>simp[shape,hu]at hsh
   | some ud=>
     have hcell:∀ (hv:v.cells= #[v]) (hbf:b=false),∃ l,rec=[l]/\j9 w (CQ b rec) v S:=by
      intro hv hbf;rw[hv]at h1;have hl:=h1.length;simp only[V9,Wy]at hl;obtain⟨l,rfl⟩:=List.length_eq_one_iff.1 hl.symm;refine⟨l,rfl,?_⟩;simp only[ak]at h1;obtain⟨v',vs',S1,S2,e,q1,⟨rfl,rfl⟩,rfl⟩:=h1;simp at e;obtain⟨rfl,_⟩:=e;rw[hbf]
      simpa[CQ,j9]using q1
     cases ud with
     | struct fs=>
       simp only[hu]at hb;subst hb;simp only[Xh,hu]at hok;obtain⟨cs,rfl,_,_⟩:=hok;exact⟨cs.toList,by simp,h1⟩
     | int k=>
       simp only[Xh,hu,X8,YR]at hok;split at hok<;>first|exact hok.elim|skip
       all_goals first|(obtain⟨l,rfl,h3⟩:=hcell rfl (by simpa[hu]using hb.symm);exact h3)|(rename_i hx _;cases hx)
     | bool=>
       simp only[Xh,hu,X8,YR]at hok;split at hok<;>first|exact hok.elim|skip
       all_goals first|(obtain⟨l,rfl,h3⟩:=hcell rfl (by simpa[hu]using hb.symm);exact h3)|(rename_i hx _;cases hx)
     | string=>
       simp only[Xh,hu,X8,YR]at hok;split at hok<;>first|exact hok.elim|skip
       all_goals first|(obtain⟨l,rfl,h3⟩:=hcell rfl (by simpa[hu]using hb.symm);exact h3)|(rename_i hx _;cases hx)
     | slice e=>
       simp only[Xh,hu,X8,YR]at hok;split at hok<;>first|exact hok.elim|skip
       all_goals first|(obtain⟨l,rfl,h3⟩:=hcell rfl (by simpa[hu]using hb.symm);exact h3)|(rename_i hx _;cases hx)
     |_=>simp[shape,hu]at hsh
theorem j9.arg {d:DV}{v:Value}{S:List Nat}(h:j9 w d v S):j8 w d v S:=by
 cases d with
 |one l=>exact h
 |agg l=>exact h
 |_=>exact h.elim
theorem x9 :∀ (ts:List TypeId) (sh:List (Bool×List Ty)) (vs:List Value) (ds:List (DataW H)) (ps:List MemPlace) (base:Nat),(ts.map (zy P))=sh.map some->
 (∀ (j:Nat) t v,ts[j]?=some t->vs[j]?=some v->Xh P w .any base t v)->XQ enc P w 0 (fun _=>true) true ts vs ds ps->
 ∃ recs,Ar sh recs/\ew (fun _=>True) w (yo sh recs) vs
 | [],[],vs,ds,ps,base,_,_,h=>by
   obtain⟨rfl,rfl,rfl⟩:=trodAll_nil h;exact⟨[],trivial,rfl⟩
 |[],_::_,_,_,_,_,h,_,_=>by simp at h
 |_::_,[],_,_,_,_,h,_,_=>by simp at h
 | t::ts,(b,us)::sh,vs,ds,ps,base,hsh,hok,h=>by
   simp only[Wz,WI]at hsh;obtain⟨v,vs',d,ds',p,q,rfl,rfl,rfl,h1,h2⟩:=trodAll_cons h;obtain⟨rec,S,r1,r2⟩:=GU hsh.1 (hok 0 t v rfl rfl) h1;obtain⟨recs,k1,k2⟩:=x9 ts sh vs' ds' q base hsh.2 (fun j t' v' e1 e2=>hok (j+1) t' v' (by simpa using e1) (by simpa using e2)) h2;exact⟨rec::recs,⟨r1,k1⟩,v,vs',S,rfl,r2.arg,fun _ _=>trivial,k2⟩
theorem Same.below {w w':World}(h:Same (fun _=>True) w w'):Below w.heap.size w w':=⟨h.os,h.tape,h.output,h.size,fun k hk=>h.block k hk trivial⟩
theorem Same.keptBut {w w':World}(h:Same (fun _=>True) w w')(may:MemPlace->Prop):w.keptBut w' may:=by
 refine⟨h.os,h.output,fun i hi=>?_⟩;rw[h.block i hi trivial];cases w.heap[i]? with
 |none=>rfl
 | some o=>cases o with
   |cells c t fr=>exact⟨rfl,rfl,rfl,fun _ _=>rfl⟩
   |map es clock=>exact .inr ⟨rfl,rfl⟩
   |_=>rfl
theorem lY {w':World}(hl:laidOutB P=true)(hb:Below w.heap.size w w'):∀ (ts:List TypeId) (vs:List Value) (ds:List (DataW H)) (ps:List MemPlace),(ts.all fun t=>P.readableRec t&&decide (t<P.types.size))=true->
 XQ enc P w 0 (fun _=>true) true ts vs ds ps->(∀ x∈ps,x.block<w.heap.size)->XQ enc P w' 0 (fun b=>decide (b<w.heap.size)) true ts vs ds ps
 | [],vs,ds,ps,_,h,_=>by
   obtain⟨rfl,rfl,rfl⟩:=trodAll_nil h;exact trodAll_mk0
 | t::ts,vs,ds,ps,hr,h,hlt=>by
   obtain⟨v,vs',d,ds',p,q,rfl,rfl,rfl,h1,h2⟩:=trodAll_cons h;simp only[List.all_cons,AI,decide_eq_true_eq]at hr;exact⟨p,q,Below.trod hl hr.1.1 hr.1.2 h1 hb (fun x hx=>hlt x (by simp[hx])),lY hl hb ts vs' ds' q (by simpa using hr.2) h2 (fun x hx=>hlt x (by simp[hx])),rfl⟩
theorem El {f:FuncId}{fn:Func}{s:ChangeSpec}{sh:List (Bool×List Ty)}{tb:TypeId}(hvars:s.vars=[])(hspec:∀ ds:List (DataW H),ds.length=fn.params.toList.length->s.fn H (ds++[])=⟨[.lit (.bool true)],ds,[]⟩) 
 (hrt:fn.resultTypes= #[tb]) (htb:P.underlying tb=some .bool) (hl:laidOutB P=true) (hread:(fn.params.toList.all fun t=>P.readableRec t&&decide (t<P.types.size))=true)
 (hsh:fn.params.toList.map (zy P)=sh.map some) (hctr:∀ recs,Ar sh recs->EO P f (yo sh recs) [.k true])
 {base:Nat} {args:Array Value} {ds gs:List (DataW H)} {before:List MemPlace} (hval:∀ (j:Nat) t v,fn.params[j]?=some t->args[j]?=some v->Xh P w .any base t v)
 (hW:DataW.Whole enc P fn.params.toList s.vars false w args.toList ds gs before):
 Calls P f args w fun e w'=>∃ v,e=.returned v/\s.post enc P fn false true false false w args v w':=by
 have hW':=hW;obtain⟨p,q,hA,hV,rfl,hfz,hnd⟩:=hW;rw[hvars]at hV;obtain⟨rfl,rfl⟩:=trodVars_none hV;obtain⟨recs,h1,h2⟩:=x9 fn.params.toList sh args.toList ds p base hsh (fun j t v e1 e2=>hval j t v (by simpa using e1) (by simpa using e2)) hA;have hc:=hctr recs h1 w args.toList h2;rw[Array.toArray_toList]at hc;refine hc.mono ?_;rintro e w' ⟨v,S,rfl,hr,_,_,hsame⟩;simp only[iy,j9,bC]at hr;obtain⟨rfl,_,_⟩:=hr;have hlen:∀ (ts:List TypeId) (vs:List Value) (ds:List (DataW H)) (ps:List MemPlace),XQ enc P w 0 (fun _=>true) true ts vs ds ps->ds.length=ts.length:=by
  intro ts
  induction ts with
  |nil=>intro vs ds ps h;obtain⟨_,rfl,_⟩:=trodAll_nil h;rfl
  |cons t ts ih=>intro vs ds ps h;obtain⟨v,vs',d,ds',p,q,rfl,rfl,rfl,_,h2⟩:=trodAll_cons h;simp[ih _ _ _ h2]
 have e1:s.fn H (ds++[])=⟨[.lit (.bool true)],ds,[]⟩:=hspec ds (hlen _ _ _ _ hA);refine⟨_,rfl,ds,[],p++[],[],p,[],hW',?_,?_,?_,hsame.keptBut _,fun h=>by cases h⟩
 ·rw[e1,hrt];exact trodAll_mk1 (shut_bool htb true)
 ·rw[e1];exact lY hl hsame.below _ _ _ _ hread hA (fun x hx=>hW'.lt x (by simpa using hx))
 ·rw[e1,hvars];rfl
end
end Go.V
namespace Go.V
theorem bB {a b:Int}(h: -9223372036854775808<=a+b/\a+b<=9223372036854775807):bJ .add .i64 a b=a+b:=X0 _ h
theorem cO {a b:Int}(h: -9223372036854775808<=a-b/\a-b<=9223372036854775807):bJ .sub .i64 a b=a-b:=X0 _ h
theorem da {i:Int}{n:Nat}(h0:0<=i)(h1:i<n)(hn:n<=4611686018427387904):bJ .add .i64 i 1=i+1:=bB (by omega)
theorem dt {α:Type}{es:List α}{d:α}{i:Nat}(hi:i<es.length):es.take (i+1)=es.take i++[es.getD i d]:=by
 rw[List.take_succ_eq_append_getElem hi,If,IN hi];rfl
def bZ (es:aa)(z:ay)(i:Nat):aa:=es.take i++Wi (es.length-i) z
theorem cH {es:aa}{z:ay}:bZ es z 0=Wi es.length z:=by simp[bZ]
theorem xE {es:aa}{z:ay}:bZ es z es.length=es:=by simp[bZ]
theorem fU {es:aa}{z:ay}{i:Nat}(hi:i<=es.length):(bZ es z i).length=es.length:=by simp[bZ];omega
theorem xF {es:aa}{z:ay}{i:Nat}(hi:i<es.length):(bZ es z i).set i (es.getD i [])=bZ es z (i+1):=by
 unfold bZ;rw[dt (d:=[]) hi,List.set_append_right _ _ (by simp;omega)];have:(es.take i).length=i:=by simp;omega
 rw[this,Yq];rw[show es.length-i=(es.length- (i+1))+1 from by omega,List.replicate_succ,List.set_cons_zero];simp
theorem jg {es:aa}{z:ay}{i:Nat}(hi:i<es.length):(bZ es z i).getD i []=z:=by
 unfold bZ;have:(es.take i).length=i:=by simp;omega
 rw[If,VY (by omega),this,Yq,List.getElem?_replicate];rw[if_pos (by omega)];rfl
theorem oF {sz:Nat}{es:aa}{n:Nat}{new:ay}(h:(es.getD n []).length=new.length):wg (.s sz es) [(n,0)] new=es.set n new:=by
 simp only[wg,fY,rowOf,List.take_zero,V5,Wc];rw[List.drop_of_length_le (by omega),WU]
theorem f8 {sz:Nat}{es:aa}{n o m:Nat}(hn:n<es.length)(hl:o+m<=(es.getD n []).length):∃ rec o',bL (.s sz es) [(n,o)]=some (rec,o')/\o'+m<=rec.length:=by
 refine⟨es.getD n [],o,?_,hl⟩;rw[gA,If,IN hn];rfl
theorem au {z:ay}{es:aa}{i:Int}(hr:Wf z es)(h0:0<=i)(h1:i<es.length):gP ah es i 0 z=es.getD i.toNat []:=(ip hr h0 h1).2.2.symm
theorem HM {a b:Int}:(co .eql a b=true)↔a=b:=by simp[co]
theorem HL {a b:Int}:(co .eql a b=false)↔a≠b:=by simp[co]
theorem HW {a b:Int}:(co .neq a b=true)↔a≠b:=by simp[co]
theorem HV {a b:Int}:(co .neq a b=false)↔a=b:=by simp[co]
theorem HU {a b:Int}:(co .lss a b=true)↔a<b:=by simp[co]
theorem HT {a b:Int}:(co .lss a b=false)↔b<=a:=by simp[co]
theorem HS {a b:Int}:(co .leq a b=true)↔a<=b:=by simp[co]
theorem HR {a b:Int}:(co .leq a b=false)↔b<a:=by simp[co]
theorem HQ {a b:Int}:(co .gtr a b=true)↔b<a:=by simp[co]
theorem HP {a b:Int}:(co .gtr a b=false)↔a<=b:=by simp[co]
theorem HO {a b:Int}:(co .geq a b=true)↔b<=a:=by simp[co]
theorem HN {a b:Int}:(co .geq a b=false)↔a<b:=by simp[co]
theorem R0 {b:Bool}:(Li b=true)↔b=false:=by cases b<;>simp[Li]
theorem RZ {b:Bool}:(Li b=false)↔b=true:=by cases b<;>simp[Li]
theorem E4 {a b:Bool}:(Ea .eql a b=true)↔a=b:=by simp[Ea]
theorem E3 {a b:Bool}:(Ea .eql a b=false)↔a≠b:=by simp[Ea]
theorem E6 {a b:Bool}:(Ea .neq a b=true)↔a≠b:=by simp[Ea]
theorem E5 {a b:Bool}:(Ea .neq a b=false)↔a=b:=by simp[Ea]
theorem az {i:Int}:Ur 0 i=i.toNat:=Wc _
theorem jX {n b:Nat}(h:n*b<=70368744177664)(hn:n<=70368744177664):0<=KT n/\KT n<=KT n/\KT n*(b:Int)<=70368744177664/\KT n<=70368744177664:=by
 unfold KT;refine⟨by omega,by omega,?_,by omega⟩;rw[<-Int.natCast_mul];omega
theorem nc {n:Nat}:(ZJ n:Int)=Int.ofNat n:=rfl
theorem sa {es:aa}:zA es 0 es.length=es:=by simp[zA]
end Go.V
namespace Go.V
def jp :Nat->ay->List Hv
 |_,[]=>[]
 | i,l::ls=>match l with
   | .s sz es=>⟨0,0,some i,.own (.s sz es)⟩::jp (i+1) ls
   | .v x=>⟨0,0,none,.own (.v x)⟩::jp i ls
   | .g=>⟨0,0,none,.own .g⟩::jp i ls
   | .m kb es=>⟨0,0,none,.own (.m kb es)⟩::jp i ls
def yW (O:yl):Nat->Nat->List DV->List W
 |_,_,[]=>[]
 |p,i,d::ds=>.root p false (jp i (aT d)):: .reg p (A0 O p 0 d)::yW O (p+1) (i+(slL (aT d)).length) ds
def Db (O:yl)(ds:List DV):VS:=push [] (yW O 0 0 ds)
def DD {α:Type}(pr:(Unit->Prop)->Prop)(os:Nat->L):List (Nat×Nat)->Nat->Rd α->Rd α
 |[],_,k=>k
 | (r,j)::ps,i,k=>ez r j fun h=>match h.org with
  | some i'=>if WR i' i then match h.c with
    | .own (.s sz es)=>.req (pr fun _=>L.s sz es=os i) (DD pr os ps (i+1) k)
    |_=>.fail
    else .fail
  |none=>.fail
def D6 (T:wd)(O:yl)(ts:List TypeId)(rvs:List ResultVar)(locs:List (Nat×Nat))(σ:VS)(res:List DV)(outs:Nat->L):Prop:=
 (vC T O ts rvs fun ds srcs=>if aZ (srcs++locs)then .req (O.pr fun _=>ds=res) (DD O.pr outs locs 0 (.ret ()))else .fail).wpU (get σ) [] fun _ _=>True
def Oq (T:wd)(O:yl)(ts:List TypeId)(rvs:List ResultVar)(locs:List (Nat×Nat))(res:List DV)(outs:Nat->L):Ex->VS->Prop
 | .normal,σ=>D6 T O ts rvs locs σ res outs
 | .ret,σ=>D6 T O ts rvs locs σ res outs
 | .exit _,_=>False
section
variable {P : Program} {cx : Cx} {G : Gh} {g : Gm} {a : Act} {w : World}
theorem nV :∀ {ls:ay} {vs:List Value} {i:Nat},vs.length=ls.length->(∀ k v,(zz ls vs)[k]?=some v->cx.anc (i+k)=v)->∀ (j:Nat) (h:Hv),(jp i ls)[j]?=some h->
 ∃ l v og,ls[j]?=some l/\vs[j]?=some v/\h=⟨0,0,og,.own l⟩/\dj cx h.c h.org v
 |[],vs,i,_,_,j,h,e=>by simp[jp]at e
 |l::ls,[],i,hl,_,j,h,e=>by simp at hl
 | l::ls,v::vs,i,hl,ha,j,h,e=>by
   cases l with
   | s sz es=>
     simp only[jp]at e;cases j with
     | zero=>
       simp at e;subst e;refine⟨_,v,some i,rfl,rfl,rfl,fun k hk=>?_⟩;cases hk;exact(ha 0 v (by simp[zz])).symm
     | succ j=>
       obtain⟨l,v',og,e1,e2,e3,e4⟩:=nV (ls:=ls) (vs:=vs) (i:=i+1) (by simpa using hl) (fun k v hk=>by rw[show i+1+k=i+(k+1)from by omega];exact ha (k+1) v (by simpa[zz]using hk)) j h (by simpa using e);exact⟨l,v',og,by simpa using e1,by simpa using e2,e3,e4⟩
   | v x=>
     simp only[jp]at e;cases j with
     |zero=>simp at e;subst e;exact⟨_,v,none,rfl,rfl,rfl,dj.none⟩
     | succ j=>
       obtain⟨l,v',og,e1,e2,e3,e4⟩:=nV (ls:=ls) (vs:=vs) (i:=i) (by simpa using hl) (fun k v hk=>ha k v (by simpa[zz]using hk)) j h (by simpa using e);exact⟨l,v',og,by simpa using e1,by simpa using e2,e3,e4⟩
   | g=>
     simp only[jp]at e;cases j with
     |zero=>simp at e;subst e;exact⟨_,v,none,rfl,rfl,rfl,dj.none⟩
     | succ j=>
       obtain⟨l,v',og,e1,e2,e3,e4⟩:=nV (ls:=ls) (vs:=vs) (i:=i) (by simpa using hl) (fun k v hk=>ha k v (by simpa[zz]using hk)) j h (by simpa using e);exact⟨l,v',og,by simpa using e1,by simpa using e2,e3,e4⟩
   | m kb es=>
     simp only[jp]at e;cases j with
     |zero=>simp at e;subst e;exact⟨_,v,none,rfl,rfl,rfl,dj.none⟩
     | succ j=>
       obtain⟨l,v',og,e1,e2,e3,e4⟩:=nV (ls:=ls) (vs:=vs) (i:=i) (by simpa using hl) (fun k v hk=>ha k v (by simpa[zz]using hk)) j h (by simpa using e);exact⟨l,v',og,by simpa using e1,by simpa using e2,e3,e4⟩
theorem Eo {ls:ay}{i j:Nat}{l:L}(h:ls[j]?=some l):∃ og,(jp i ls)[j]?=some ⟨0,0,og,.own l⟩:=by
 induction ls generalizing i j with
 |nil=>simp at h
 | cons x ls ih=>
   cases j with
   |zero=>simp at h;subst h;cases x<;>exact⟨_,rfl⟩
   | succ j=>
     simp at h;cases x with
     |s sz es=>obtain⟨og,e⟩:=ih (i:=i+1) h;exact⟨og,by simpa[jp]using e⟩
     |v y=>obtain⟨og,e⟩:=ih (i:=i) h;exact⟨og,by simpa[jp]using e⟩
     |g=>obtain⟨og,e⟩:=ih (i:=i) h;exact⟨og,by simpa[jp]using e⟩
     |m _ _=>obtain⟨og,e⟩:=ih (i:=i) h;exact⟨og,by simpa[jp]using e⟩
theorem jG :∀ {ls:ay} {vs:List Value},vs.length=ls.length->(zz ls vs).length=(slL ls).length
 |[],[],_=>rfl
 |[],_::_,h=>by simp at h
 |_::_,[],h=>by simp at h
 | l::ls,v::vs,h=>by
   have ih:=jG (ls:=ls) (vs:=vs) (by simpa using h);cases l<;>simp[zz,slL,ih]
theorem GP {a:Act}{p:Nat}{v:Value}(hp:p<a.tmps.size)(h:a.tmps.getD p undef=v):a.put (some p) v=a:=by
 obtain⟨t,d⟩:=a;simp only[YZ]at*
 congr 1
 apply Array.ext_getElem?;intro i;rw[Array.getElem?_setIfInBounds];by_cases e:p=i
 ·subst e;rw[if_pos rfl,if_pos hp];rw[<-h,Wp,WZ hp];rfl
 ·rw[if_neg e]
theorem uW :∀ (ds:List DV) (p i:Nat) (vs:List Value) (S:List Nat) (g:Gm) (G:Gh),aP cx G g a w->(∀ r,p<=r->g (.meta_ r)=none)->bQ w ds vs S->S.Nodup->
 (∀ b∈S,dy w b/\G.ow b=some (.leaf cx.n 0))->p+ds.length<=cx.n->(∀ k v,vs[k]?=some v->a.tmps.getD (p+k) undef=v)->(∀ k v,(cA ds vs)[k]?=some v->cx.anc (i+k)=v)->
 de cx (aS g (yW ah p i ds)) a w
 |[],p,i,vs,S,g,G,hS,_,_,_,_,_,_,_=>⟨G,hS⟩
 | d::ds,p,i,vs,S,g,G,hS,hm,hr,hnd,htok,hn,hv,ha=>by
   simp only[bQ]at hr;obtain⟨v,vs',S1,S2,rfl,h1,h2,rfl⟩:=hr;rw[List.nodup_append]at hnd;obtain⟨n1,n2,n3⟩:=hnd;obtain⟨lv,q1,q2,q3,q4⟩:∃ lv,ak w (aT d) lv S1/\(∀ dl,d=.one dl->lv=[v])/\(∀ dls,d=.agg dls->v=.agg lv.toArray)/\cA (d::ds) (v::vs')=zz (aT d) lv++cA ds vs':=by
    cases d with
    |one l=>exact⟨[v],by simp only[aT,ak];exact⟨v,[],S1,[],rfl,h1,⟨rfl,rfl⟩,by simp⟩,fun _ _=>rfl,(fun _ e=>by cases e),rfl⟩
    |agg ls=>obtain⟨us,rfl,h1'⟩:=h1;exact⟨us,h1',(fun _ e=>by cases e),(fun _ e=>by cases e;rfl),by simp[cA,aT]⟩
    |_=>exact h1.elim
   obtain⟨Ss,s1,s2,s3⟩:=q1.items;have hlen:=q1.length;have ha1:∀ k v,(zz (aT d) lv)[k]?=some v->cx.anc (i+k)=v:=by
    intro k u hk;refine ha k u ?_;rw[q4,Wa (IT.1 hk).1];exact hk
   have hat:=fun j h=>nV (cx:=cx) (ls:=aT d) (vs:=lv) (i:=i) hlen ha1 j h
   have hnone:gl g cx.n 0=none:=by
    cases e:gl g cx.n 0 with
    |none=>rfl
    | some y=>
      obtain⟨_,k,bx,_,e2,_⟩:=hS.leaf cx.n 0 _ (av.1 e);rw[hm cx.n (by simp at hn;omega)]at e2;cases e2
   obtain⟨G',k1,k2,_,_,k5⟩:=hS.newRoot (hm p (VJ _)) false (jp i (aT d)) w (Same.refl _ _) (fun j=>lv.getD j undef) (fun j=>Ss.getD j [])
    (by
      intro j h hj;obtain⟨l,u,og,e1,e2,e3,_⟩:=hat j h hj;obtain⟨u',z1,z2⟩:=s3 j l e1;rw[e3];simp only[EH];refine⟨by simpa[Wm,z1]using z2,fu (by rw[s1];exact n1) j,fun b hb=>?_⟩;have:=htok b (BY.2 (.inl (by rw[<-s1];exact dA hb)));exact⟨this.1,.inr ⟨cx.n,0,this.2,fun h l e=>by rw[hnone]at e;cases e⟩⟩)
    (by
      intro j h hj;obtain⟨l,u,og,e1,e2,e3,e4⟩:=hat j h hj;have:lv.getD j undef=u:=by simp[Wm,e2]
      rw[this];exact e4)
    (fun i j _ _ hij=>d6 (by rw[s1];exact n1) i j hij) 0 0 (by simp)
   have hpn:p<cx.n:=by simp at hn;omega
   have hg:∀ j l,(aT d)[j]?=some l->∃ og,gl ((W.root p false (jp i (aT d))).app g) p (0+j)=some ⟨0,0,og,.own l⟩:=by
    intro j l e;obtain⟨og,e2⟩:=Eo (i:=i) e;exact⟨og,by simp[gl,W.app,e2]⟩
   have hrok:cg (gl ((W.root p false (jp i (aT d))).app g)) G' w (AZ p 0 d) v:=by
    refine DY h1 hg ?_;intro lv' z1 z2 z3 j u e;have:lv'=lv:=by
     cases d with
     |one l=>rw[z2 l rfl,q2 l rfl]
     |agg ls=>have e1:=z3 ls rfl;rw[q3 ls rfl]at e1;simpa using e1.symm
     |_=>exact h1.elim
    subst this;rw[k2,Wc];simp[Wm,e]
   have hput:=k1.put hpn hrok;have hself:a.put (some p) v=a:=GP (by rw[hS.tm];exact hpn) (by have:=hv 0 v (by simp);simpa using this);rw[hself]at hput;simp only[yW,aS,vD];refine uW ds (p+1) _ vs' S2 _ G' hput ?_ h2 n2 ?_ (by simp at hn;omega) ?_ ?_
   ·intro r hr;simp only[W.app];rw[if_neg (by intro e;cases e),if_neg (by omega)];exact hm r (by omega)
   ·intro b hb;have:=htok b (BY.2 (.inr hb));refine⟨this.1,?_⟩;rw[k5 b (by simp) (fun j _ hbj=>n3 b (by rw[<-s1];exact dA hbj) b hb rfl)];exact this.2
   ·intro k u e;rw[show p+1+k=p+(k+1)from by omega];exact hv (k+1) u (by simpa using e)
   ·intro k u e;have hsl:=jG hlen;rw[show i+(slL (aT d)).length+k=i+((zz (aT d) lv).length+k)from by rw[hsl];omega];refine ha _ u ?_;rw[q4,VY (by omega)]
    simpa using e
end
end Go.V
namespace Go.V
def PX {Φ:Type}(_:Φ):MT:=fun _=>none
def UC {Φ:Type}(_:Φ):CT:=fun _ _=>none
section
variable {P : Program} {T : wd} {cx : Cx} {G : Gh} {g : Gm} {a : Act} {w : World}
theorem Eg (n:Nat)(w:World)(ds:List DV)(vs:List Value)(S:List Nat)(hr:bQ w ds vs S)(hnd:S.Nodup)(hunf:∀ b∈S,dy w b)(hn:ds.length<=n):
 de ⟨n,w,fun b=>b∉S,fun i=>(cA ds vs).getD i undef,fun _=>none,fun _=>0,fun _=>True⟩ (get (Db ah ds)) {tmps:=vs.toArray++Xj (n-vs.toArray.size) undef,defers:=[]} w:=by
 have hlen:∀ (ds:List DV) (vs:List Value) (S:List Nat),bQ w ds vs S->vs.length=ds.length:=by
  intro ds
  induction ds with
  |nil=>intro vs S h;simp only[bQ]at h;simp[h.1]
  |cons d ds ih=>intro vs S h;simp only[bQ]at h;obtain⟨v,vs',S1,S2,rfl,_,h2,_⟩:=h;simp[ih _ _ h2]
 have hl:=hlen ds vs S hr
 open Classical in
 let G:Gh:={loc:=fun _=>none,val:=fun _ _=>undef,fp:=fun _ _=>[],ow:=fun b=>if b∈S then some (.leaf n 0)else if b<w.heap.size then some .ro else none,lead:=id}
 unfold Db;rw[uN];refine uW ds 0 0 vs S (get []) G ?_ (fun _ _=>rfl) hr hnd (fun b hb=>⟨hunf b hb,by simp[G,hb]⟩) (by simp;omega) ?_ ?_
 ·refine⟨rfl,by simp;omega,?_,?_,?_,?_,?_,?_,Same.refl _ _,?_,?_,?_,(fun r b o e=>by cases e),(fun r1 r2 k1 k2 b o1 o2 _ e=>by simp[get]at e),(fun r b o e=>by cases e),fun _ _=>trivial⟩
  ·intro d x hx;cases hx
  ·intro r k hk;cases hk
  ·intro r j x hx;cases hx
  ·intro r x hx;cases hx
  ·intro r b hb;cases hb
  ·intro b t hb;by_cases c:b∈S
   ·exact(hunf b c).lt
   ·by_cases c2:b<w.heap.size
    ·exact c2
    ·simp[G,c,c2]at hb
  ·intro b hb hf;have hf:b∉S:=hf;have hb:b<w.heap.size:=hb
   right;simp[G,hf,hb]
  ·intro r j h e;simp[gl,get]at e
  ·intro r x e;cases e
 ·intro k v e;have hk:k<vs.length:=(IT.1 e).1;simp only[Wc,Wp];rw[Yf (by simpa using hk)];simp[e]
 ·intro k v e;simp only[Wc,If,e];rfl
theorem qx (hS:aP cx G g a w){α:Type}{k:Rd α}{os:Nat->L}:∀ (locs:List (Nat×Nat)) (i:Nat) (ls:List Loc) (out:α),(DD iW os locs i k).Runs g ls out->
 (∀ p∈locs,∃ h sz es,g (.leaf p.1 p.2)=some (.h h)/\h.c=.own (.s sz es))/\ak w ((XV i locs.length).map os) ((XV i locs.length).map cx.anc) (iH G locs)
 |[],i,ls,out,h=>⟨(fun p hp=>by cases hp),by simp[ak,iH]⟩
 | (r,j)::ps,i,ls,out,h=>by
  obtain⟨hv,ls2,q1,q2,hk⟩:=ba (k:=fun h=>match h.org with
   | some i'=>if WR i' i then match h.c with
     | .own (.s sz es)=>.req (iW fun _=>L.s sz es=os i) (DD iW os ps (i+1) k)
     |_=>.fail
     else .fail
   |none=>.fail) h
  cases ho:hv.org with
  |none=>simp[ho,Rd.Runs]at hk
  | some i'=>
    simp only[ho]at hk;split at hk
    case isFalse=>exact hk.elim
    rename_i hb;have hi:=V0 hb;subst hi;split at hk
    ·rename_i sz es hc;obtain⟨hp,hk⟩:=hk;have hp:L.s sz es=os i':=hp;obtain⟨k1,k2⟩:=qx hS ps (i'+1) _ _ hk;have hval:=hS.anc r j hv q1 i' ho;have hok:=hS.hok q1;simp only[cR,hc]at hok;refine⟨fun p hp=>?_,?_⟩
     ·rcases VN.1 hp with rfl|hp
      ·exact⟨hv,sz,es,q2,hc⟩
      ·exact k1 p hp
     ·simp only[ak,V9,List.range'_succ,Wz];exact⟨_,_,G.fp r j,iH G ps,rfl,by rw[<-hval, <-hp];exact hok.1,k2,rfl⟩
    ·exact hk.elim
theorem kh :∀ {ds:List DV} {vs:List Value} {S:List Nat},bQ w ds vs S->(cA ds vs).length=(ds.flatMap fun d=>slL (aT d)).length
 |[],vs,S,h=>by simp only[bQ]at h;simp[h.1,cA]
 | d::ds,vs,S,h=>by
   simp only[bQ]at h;obtain⟨v,vs',S1,S2,rfl,h1,h2,rfl⟩:=h;have ih:=kh h2;cases d with
   | one l=>
     have:(zz [l] [v]).length=(slL [l]).length:=jG rfl;simp only[cA,By,WS,aT,this,ih]
   | agg ls=>
     obtain⟨us,rfl,h1⟩:=h1;have:=jG h1.length;simp only[cA,By,WS,aT,ih];omega
   |_=>exact h1.elim
theorem lB {fn:Func}{tmps:Array Value}{w':World}{vs':List Value}{ds':List DV}{S:List Nat}(k1:(fn.results.toList.mapM (mB tmps)).run P w'=.ok vs' w')(k2:bQ w' ds' vs' S):
 ∃ v,(results fn tmps).run P w'=.ok v w'/\iy w' ds' v S:=by
 have hrun:(results fn tmps).run P w'=.ok (if h:vs'.toArray.size=1 then vs'.toArray[0]else .tuple vs'.toArray) w':=by
  rw[Cs,Array.mapM_eq_mapM_toList (m:=Sem)];simp only[Sem.run_bind,Sem.run_map,k1,Result.andThen_ok,Sem.run_pure]
 refine⟨_,hrun,?_⟩;have hl:∀ {ds:List DV} {vs:List Value} {S:List Nat},bQ w' ds vs S->vs.length=ds.length:=by
  intro ds
  induction ds with
  |nil=>intro vs S h;simp only[bQ]at h;simp[h.1]
  |cons d ds ih=>intro vs S h;simp only[bQ]at h;obtain⟨v,vs',S1,S2,rfl,_,h2,_⟩:=h;simp[ih h2]
 have hlen:=hl k2;cases ds' with
 | nil=>
   have:vs'=[]:=WC hlen;subst this;exact⟨[],by simp,k2⟩
 | cons d1 rest=>
   cases rest with
   | nil=>
     simp only[bQ]at k2;obtain⟨v,vs'',S1,S2,rfl,q1,⟨rfl,rfl⟩,rfl⟩:=k2
     simpa[iy]using q1
   | cons d2 rest=>
     have:¬ vs'.toArray.size=1:=by simp at hlen;simp;omega
     rw[dif_neg this];exact⟨vs',rfl,k2⟩
theorem Iy {Φ:Type}{F:Φ}:Ag P (PX F):=by intro f mk h;cases h
theorem MP {Φ:Type}{F:Φ}:yh P (UC F):=by intro f ds pre res h;cases h
end
end Go.V
namespace Go.V
abbrev PT :=FuncId->Option PK
abbrev NT :=FuncId->Option NK
abbrev OT :=FuncId->Option RV
def PZ {Φ:Type}(_:Φ):OT:=fun _=>none
theorem IA {P:Program}{Φ:Type}{F:Φ}:BG P (PZ F):=by intro f mk h;cases h
def PY {Φ:Type}(_:Φ):NT:=fun _=>none
theorem Iz {P:Program}{Φ:Type}{F:Φ}:BF P (PY F):=by intro f mk h;cases h
def P0 {Φ:Type}(_:Φ):PT:=fun _=>none
theorem IB {P:Program}{Φ:Type}{F:Φ}:Ah P (P0 F):=by intro f mk h;cases h
def P5 (al:Bool)(r j:Nat):Option Nat:=match al with
 |true=>some (1000000000+(r*1000+j))
 |false=>none
def Da (al:Bool)(r:Nat):Nat->List H->List Hv
 |_,[]=>[]
 |j,.own l::hs=>⟨0,0,P5 al r j,.own l⟩::Da al r (j+1) hs
 |j,h::hs=>⟨0,0,some (r*1000+j),h⟩::Da al r (j+1) hs
def dI (al:Bool):Nat->List DV->VS
 |_,[]=>[]
 |p,.mp hs::ds=>.reg p (.one (.pt p 0)):: .root p true (Da al p 0 hs)::dI al (p+1) ds
 |p,d::ds=>.reg p (mN d)::dI al (p+1) ds
def mpL :Nat->List DV->List (Nat×List H)
 |_,[]=>[]
 |p,.mp hs::ds=>(p,hs)::mpL (p+1) ds
 |p,_::ds=>mpL (p+1) ds
def eN :Nat->List DV->List dX->Nat->Option dX
 |p,.mp _::ds,q::ps,r=>if r=p then some q else eN (p+1) ds ps r
 |_,.mp _::_,[],_=>none
 |p,_::ds,ps,r=>eN (p+1) ds ps r
 |_,[],_,_=>none
theorem BV {al:Bool}{r:Nat}:∀ {hs:List H} {j i:Nat} {h:Hv},(Da al r j hs)[i]?=some h->∃ c,hs[i]?=some c/\h.ver=0/\h.iv=0/\h.c=c/\(∀ l,c=.own l->h.org=P5 al r (j+i))/\((∀ l,c≠ .own l)->h.org=some (r*1000+(j+i)))
 |[],j,i,h,e=>by simp[Da]at e
 | c::hs,j,i,h,e=>by
   cases i with
   | zero=>
     cases c with
     |own l=>simp[Da]at e;subst e;exact⟨_,rfl,rfl,rfl,rfl,fun _ _=>rfl,fun k=>absurd rfl (k l)⟩
     |ro l=>simp[Da]at e;subst e;exact⟨_,rfl,rfl,rfl,rfl,(fun _ k=>by cases k),fun _=>rfl⟩
     |gone=>simp[Da]at e;subst e;exact⟨_,rfl,rfl,rfl,rfl,(fun _ k=>by cases k),fun _=>rfl⟩
   | succ i=>
     have:(Da al r (j+1) hs)[i]?=some h:=by cases c<;>simpa[Da]using e
     obtain⟨c',q1,q2,q3,q4,q5,q6⟩:=BV this;exact⟨c',by simpa using q1,q2,q3,q4,fun l k=>by rw[q5 l k];congr 1;omega,fun k=>by rw[q6 k];congr 2;omega⟩
theorem uU {al:Bool}{r:Nat}:∀ {hs:List H} {j:Nat},(Da al r j hs).length=hs.length
 |[],_=>rfl
 |c::hs,j=>by cases c<;>simp[Da,uU (hs:=hs)]
section
variable {P : Program} {T : wd} {w : World} {ok : Nat -> Prop}
theorem eg.length :∀ {ds:List DV} {vs:List Value} {ps:List dX},eg w ok ds vs ps->vs.length=ds.length
 |[],vs,ps,h=>by simp only[eg]at h;simp[h.1]
 | d::ds,vs,ps,h=>by
   cases d with
   |mp hs=>obtain⟨p,ps',vs',rfl,rfl,_,h⟩:=h;simp[h.length]
   |one l=>obtain⟨v,vs',S,rfl,_,_,h⟩:=h;simp[eg.length h]
   |agg l=>obtain⟨v,vs',S,rfl,_,_,h⟩:=h;simp[eg.length h]
   |ptr l=>obtain⟨v,vs',S,rfl,_,_,h⟩:=h;simp[eg.length h]
   |fn f l=>obtain⟨v,vs',S,rfl,_,_,h⟩:=h;simp[eg.length h]
theorem GG :∀ {ds:List DV} {ps:List dX} {p r:Nat} {q:dX},eN p ds ps r=some q->p<=r/\r<p+ds.length
 |[],ps,p,r,q,h=>by simp[eN]at h
 | d::ds,ps,p,r,q,h=>by
   have step:∀ ps,eN (p+1) ds ps r=some q->p<=r/\r<p+(d::ds).length:=fun ps h=>by
    have:=GG h;simp;omega
   cases d with
   | mp hs=>
     cases ps with
     |nil=>simp[eN]at h
     | cons q' ps=>
       simp only[eN]at h;split at h
       ·simp;omega
       ·exact step _ h
   |_=>exact step ps h
theorem mw :∀ {ds:List DV} {vs:List Value} {ps:List dX} {p r:Nat} {q:dX},eg w ok ds vs ps->(eN p ds ps r=some q↔∃ k:Nat,(mpL p ds)[k]?=some (r,q.hs)/\ps[k]?=some q)
 |[],vs,ps,p,r,q,ha=>by simp[eN,mpL]
 | d::ds,vs,ps,p,r,q,ha=>by
   have mge:∀ {ds:List DV} {p k:Nat} {x:Nat×List H},(mpL p ds)[k]?=some x->p<=x.1:=by
    intro ds
    induction ds with
    |nil=>intro p k x h;simp[mpL]at h
    | cons d ds ih=>
      intro p k x h;cases d with
      | mp hs=>
        simp only[mpL]at h;cases k with
        |zero=>simp at h;subst h;exact VJ _
        |succ k=>simp at h;have:=ih h;omega
      |_=>have:=ih (p:=p+1) h;omega
   cases d with
   | mp hs=>
     obtain⟨p0,ps',vs',rfl,rfl,e,ha⟩:=ha;have ih:=mw (p:=p+1) (r:=r) (q:=q) ha;simp only[eN,mpL]
     constructor
     ·intro h;split at h
      ·rename_i c;cases h;exact⟨0,by simp[c,e],by simp⟩
      ·obtain⟨k,h1,h2⟩:=ih.1 h;exact⟨k+1,by simpa using h1,by simpa using h2⟩
     ·rintro⟨k,h1,h2⟩;cases k with
      |zero=>simp at h1 h2;rw[if_pos h1.1.symm];rw[h2]
      | succ k=>
        simp at h1 h2;have:=mge h1;rw[if_neg (by simp only at this;omega)];exact ih.2 ⟨k,h1,h2⟩
   |one l=>obtain⟨v,vs',S,rfl,_,_,ha⟩:=ha;exact mw (p:=p+1) ha
   |agg l=>obtain⟨v,vs',S,rfl,_,_,ha⟩:=ha;exact mw (p:=p+1) ha
   |ptr l=>obtain⟨v,vs',S,rfl,_,_,ha⟩:=ha;exact mw (p:=p+1) ha
   |fn f l=>obtain⟨v,vs',S,rfl,_,_,ha⟩:=ha;exact mw (p:=p+1) ha
theorem mj {al:Bool}:∀ {ds:List DV} {vs:List Value} {ps:List dX} (p:Nat),eg w ok ds vs ps->
 (∀ r,get (dI al p ds) (.meta_ r)=(eN p ds ps r).map fun q=>.m q.hs.length true)/\
 (∀ r j,get (dI al p ds) (.leaf r j)=(eN p ds ps r).bind fun q=>((Da al r 0 q.hs)[j]?).map .h)/\
 (∀ d x,get (dI al p ds) (.reg d)=some x->∃ i,d=p+i/\i<vs.length/\((∃ q,eN p ds ps d=some q/\x=.r (.one (.pt d 0))/\vs[i]?=some (.pointer (some ⟨q.b,q.off,none⟩)))\/(∃ dv v S,x=.r (mN dv)/\vs[i]?=some v/\j8 w dv v S/\∀ b∈S,ok b)))
 | [],vs,ps,p,ha=>by
   refine⟨fun r=>rfl,fun r j=>rfl,fun d x h=>by cases h⟩
 | d::ds,vs,ps,p,ha=>by
   have other:∀ (v:Value) (vs':List Value) (S:List Nat),vs=v::vs'->j8 w d v S->(∀ b∈S,ok b)->eg w ok ds vs' ps->(∀ r,eN p (d::ds) ps r=eN (p+1) ds ps r)->dI al p (d::ds)=.reg p (mN d)::dI al (p+1) ds->
    (∀ r,get (dI al p (d::ds)) (.meta_ r)=(eN p (d::ds) ps r).map fun q=>.m q.hs.length true)/\
    (∀ r j,get (dI al p (d::ds)) (.leaf r j)=(eN p (d::ds) ps r).bind fun q=>((Da al r 0 q.hs)[j]?).map .h)/\
    (∀ d' x,get (dI al p (d::ds)) (.reg d')=some x->∃ i,d'=p+i/\i<vs.length/\((∃ q,eN p (d::ds) ps d'=some q/\x=.r (.one (.pt d' 0))/\vs[i]?=some (.pointer (some ⟨q.b,q.off,none⟩)))\/(∃ dv v S,x=.r (mN dv)/\vs[i]?=some v/\j8 w dv v S/\∀ b∈S,ok b))):=by
    intro v vs' S e h1 h2 h3 h4 h5;subst e;obtain⟨i1,i2,i3⟩:=mj (al:=al) (p+1) h3;rw[h5];refine⟨fun r=>by rw[h4, <-i1];simp[get,W.app],fun r j=>by rw[h4, <-i2];simp[get,W.app],fun d' x hx=>?_⟩;simp only[get,W.app]at hx;split at hx
    ·rename_i c;cases c;cases hx;exact⟨0,rfl,by simp,.inr ⟨d,v,S,rfl,rfl,h1,h2⟩⟩
    ·obtain⟨i,e1,e2,e3⟩:=i3 d' x hx;refine⟨i+1,by omega,by simpa using e2,?_⟩;rw[h4];rcases e3 with⟨q,k1,k2,k3⟩|⟨dv,v',S',k1,k2,k3,k4⟩
     ·exact .inl ⟨q,k1,k2,by simpa using k3⟩
     ·exact .inr ⟨dv,v',S',k1,by simpa using k2,k3,k4⟩
   cases d with
   | mp hs=>
     obtain⟨q,ps',vs',rfl,rfl,e,ha⟩:=ha;obtain⟨i1,i2,i3⟩:=mj (al:=al) (p+1) ha;subst e;have hp:eN (p+1) ds ps' p=none:=by
      cases h:eN (p+1) ds ps' p with
      |none=>rfl
      |some q=>have:=GG h;omega
     refine⟨fun r=>?_,fun r j=>?_,fun d' x hx=>?_⟩
     ·simp only[dI,get,W.app,eN];by_cases c:r=p
      ·subst c;simp[uU]
      ·simp[c,i1]
     ·simp only[dI,get,W.app,eN];by_cases c:r=p
      ·subst c;simp
      ·simp[c,i2]
     ·simp only[dI,get,W.app]at hx;split at hx
      ·rename_i c;cases c;cases hx;exact⟨0,rfl,by simp,.inl ⟨q,by simp[eN],rfl,rfl⟩⟩
      ·rename_i c;obtain⟨i,e1,e2,e3⟩:=i3 d' x hx;refine⟨i+1,by omega,by simpa using e2,?_⟩;have hne:d'≠p:=by omega
       rcases e3 with⟨q',k1,k2,k3⟩|⟨dv,v',S',k1,k2,k3,k4⟩
       ·exact .inl ⟨q',by simp only[eN];rw[if_neg hne];exact k1,k2,by simpa using k3⟩
       ·exact .inr ⟨dv,v',S',k1,by simpa using k2,k3,k4⟩
   |one l=>obtain⟨v,vs',S,e,h1,h2,h3⟩:=ha;exact other v vs' S e h1 h2 h3 (fun _=>rfl) rfl
   |agg l=>obtain⟨v,vs',S,e,h1,h2,h3⟩:=ha;exact other v vs' S e h1 h2 h3 (fun _=>rfl) rfl
   |ptr l=>obtain⟨v,vs',S,e,h1,h2,h3⟩:=ha;exact other v vs' S e h1 h2 h3 (fun _=>rfl) rfl
   |fn f l=>obtain⟨v,vs',S,e,h1,h2,h3⟩:=ha;exact other v vs' S e h1 h2 h3 (fun _=>rfl) rfl
open Classical in
theorem Eh {al:Bool}(n:Nat)(w:World)(ds:List DV)(vs:List Value)(ps:List dX)(h:K5 w ds vs ps)(hn:ds.length<=n)(anc:Nat->Value)(hanc:∀ r q j l,eN 0 ds ps r=some q->q.hs[j]?=some (.ro l)->anc (r*1000+j)=q.val j)(hanc2:∀ r q j l,al=true->eN 0 ds ps r=some q->q.hs[j]?=some (.own l)->anc (1000000000+(r*1000+j))=q.val j):
 ∃ G,aP ⟨n,w,fun b=>¬ hL ps b/\¬ lN ps b,anc,fun r=>(eN 0 ds ps r).map fun q=>(q.b,q.off),fun r=>((eN 0 ds ps r).map fun q=>q.hs.length).getD 0,fun _=>True⟩ G (get (dI al 0 ds)) {tmps:=vs.toArray++Xj (n-vs.toArray.size) undef,defers:=[]} w:=by
 have hl:=h.args.length;obtain⟨i1,i2,i3⟩:=mj (al:=al) 0 h.args;have ix:=fun {r q}=>mw (p:=0) (r:=r) (q:=q) h.args
 have mem:∀ {r q},eN 0 ds ps r=some q->q∈ps:=fun e=>by
  obtain⟨k,_,e2⟩:=ix.1 e;exact List.mem_of_getElem? e2
 have isO:∀ b,hL ps b->∃ x:Nat×Nat,∃ q l,eN 0 ds ps x.1=some q/\q.hs[x.2]?=some (.own l)/\b∈q.fp x.2:=by
  rintro b ⟨q,hq,j,l,h1,h2⟩;obtain⟨k,hk⟩:=List.getElem?_of_mem hq;have hlen:∀ {ds:List DV} {vs:List Value} {ps:List dX} {p:Nat},eg w (fun b=>¬ hL ps b/\¬ lN ps b) ds vs ps->True:=fun _=>trivial
  have key:∀ (ok:Nat->Prop) (ds:List DV) (vs:List Value) (ps:List dX) (p k:Nat) (q:dX),eg w ok ds vs ps->ps[k]?=some q->∃ r,(mpL p ds)[k]?=some (r,q.hs):=by
   intro ok ds
   induction ds with
   |nil=>intro vs ps p k q h e;simp only[eg]at h;rw[h.2]at e;simp at e
   | cons d ds ih=>
     intro vs ps p k q h e;cases d with
     | mp hs=>
       obtain⟨p0,ps',vs',rfl,rfl,e0,h⟩:=h;cases k with
       |zero=>simp at e;subst e;exact⟨p,by simp[mpL,e0]⟩
       |succ k=>simp at e;obtain⟨r,hr⟩:=ih vs' ps' (p+1) k q h e;exact⟨r,by simpa[mpL]using hr⟩
     |one l=>obtain⟨v,vs',S,rfl,_,_,h⟩:=h;exact ih vs' ps (p+1) k q h e
     |agg l=>obtain⟨v,vs',S,rfl,_,_,h⟩:=h;exact ih vs' ps (p+1) k q h e
     |ptr l=>obtain⟨v,vs',S,rfl,_,_,h⟩:=h;exact ih vs' ps (p+1) k q h e
     |fn f l=>obtain⟨v,vs',S,rfl,_,_,h⟩:=h;exact ih vs' ps (p+1) k q h e
  obtain⟨r,hr⟩:=key _ ds vs ps 0 k q h.args hk;exact⟨(r,j),q,l,ix.2 ⟨k,hr,hk⟩,h1,h2⟩
 let G:Gh:={
  loc:=fun r=>(eN 0 ds ps r).map fun q=>(q.b,q.off)
  val:=fun r j=>((eN 0 ds ps r).map fun q=>q.val j).getD undef
  fp:=fun r j=>((eN 0 ds ps r).map fun q=>q.fp j).getD []
  ow:=fun b=>if ho:hL ps b then some (.leaf (isO b ho).choose.1 (isO b ho).choose.2)else if lN ps b then some (.box b)else if b<w.heap.size then some .ro else none
  lead:=fun r=>((eN 0 ds ps r).map fun q=>q.b).getD 0}
 have ixne:∀ {r r' q q'},eN 0 ds ps r=some q->eN 0 ds ps r'=some q'->r≠r'->∃ k k':Nat,k≠k'/\ps[k]?=some q/\ps[k']?=some q':=by
  intro r r' q q' e1 e2 hne;obtain⟨k,a1,a2⟩:=ix.1 e1;obtain⟨k',b1,b2⟩:=ix.1 e2;refine⟨k,k',fun e=>?_,a2,b2⟩;subst e;have h:=a1.symm.trans b1;simp at h;exact hne h.1
 have owO:∀ r j q l,eN 0 ds ps r=some q->q.hs[j]?=some (.own l)->∀ b∈q.fp j,G.ow b=some (.leaf r j):=by
  intro r j q l e1 e2 b hb;have ho:hL ps b:=⟨q,mem e1,j,l,e2,hb⟩;simp only[G,dif_pos ho];obtain⟨q',l',f1,f2,f3⟩:=(isO b ho).choose_spec;generalize(isO b ho).choose=x at*;by_cases c:x.1=r
  ·rw[c,e1]at f1;cases f1;by_cases cj:x.2=j
   ·rw[c,cj]
   ·obtain⟨k,_,hk⟩:=ix.1 e1;exact absurd hb (h.disj k _ k j q q l' l hk hk f2 e2 (fun e=>cj (by cases e;rfl)) b f3)
  ·obtain⟨k,k',hne,hk,hk'⟩:=ixne f1 e1 c;exact absurd hb (h.disj k _ k' j q' q l' l hk hk' f2 e2 (fun e=>hne (by cases e;rfl)) b f3)
 have owP:∀ b,lN ps b->G.ow b=some (.box b):=by
  intro b hb;simp only[G,dif_neg (h.box b hb),if_pos hb]
 have owR:∀ b,b<w.heap.size->¬ hL ps b/\¬ lN ps b->G.ow b=some .ro:=by
  intro b hb ⟨h1,h2⟩;simp only[G,dif_neg h1,if_neg h2,if_pos hb]
 have cellq:∀ {r q},eN 0 ds ps r=some q->∃ cur ty,w.heap[q.b]?=some (.cells cur ty (0,0))/\q.off+q.hs.length<=cur.size/\∀ j,j<q.hs.length->cur[q.off+j]?=some (q.val j):=fun e=>h.cell _ (mem e)
 refine⟨G,rfl,by simp;omega,?_,?_,?_,?_,?_,?_,Same.refl _ _,?_,?_,?_,?_,?_,?_,fun _ _=>trivial⟩
 ·intro d x hx;obtain⟨i,rfl,e2,e3⟩:=i3 d x hx;have hv:∀ v,vs[i]?=some v->(vs.toArray++Xj (n-vs.toArray.size) undef).getD (0+i) undef=v:=by
   intro v hv;simp only[Wp,Wc];rw[Yf (by simpa using e2)];simp[hv]
  refine⟨by show 0+i<n;omega,?_⟩;rcases e3 with⟨q,k1,k2,k3⟩|⟨dv,v,S,k1,k2,k3,k4⟩
  ·refine⟨_,k2,?_⟩;simp only[cg,eZ];exact⟨q.b,q.off,by simp only[G,k1,WA],hv _ k3⟩
  ·refine⟨_,k1,?_⟩;simp only;rw[hv _ k2];have tok:∀ b∈S,b<w.heap.size->G.ow b=some .ro:=fun b hb hlt=>owR b hlt (k4 b hb)
   cases dv with
   | one l=>
     simp only[mN,cg];have:=pE (γ:=gl (get (dI al 0 ds))) (G:=G) [l] [v] S (by simp only[ak];exact⟨v,[],S,[],rfl,k3,⟨rfl,rfl⟩,by simp⟩) (fun b hb=>tok b hb (bC.lt _ _ _ k3 b hb));simp only[Wz,List.map_nil,bM]at this;obtain⟨v',vs'',e,h3,_⟩:=this;cases e;exact h3
   | agg lls=>
     obtain⟨us,e,h1⟩:=k3;simp only[mN,cg];exact⟨us,e,pE _ _ S h1 (fun b hb=>tok b hb (ak.lt _ _ _ h1 b hb))⟩
   | ptr rec=>
     obtain⟨b,off,cur,ty,fz,S',e1,e2,e3,e4,rfl⟩:=k3;simp only[mN,cg];exact⟨b,off,cur,ty,fz,S',e1,e2,tok b (by simp) (OF.1 e2).1,e3,e4,fun c hc=>tok c (by simp[hc]) (ak.lt _ _ _ e4 c hc)⟩
   | fn f caps=>
     obtain⟨us,e,h1⟩:=k3;simp only[mN,cg];refine⟨us,e,?_⟩;have key:∀ (caps:aa) (us:List Value) (S':List Nat),gd w caps us S'->(∀ b∈S',b∈S)->dp G w (caps.map fun rec=>.rp rec 0) us:=by
      intro caps
      induction caps with
      |nil=>intro us S' h _;simp only[gd]at h;simp[dp,h.1]
      | cons r rs ih=>
        intro us S' h hsub;simp only[gd]at h;obtain⟨v,vs',S1,S2,rfl,q1,q2,rfl⟩:=h;obtain⟨b,off,cur,ty,fz,S3,e1,e2,e3,e4,rfl⟩:=q1;exact⟨v,vs',rfl,⟨b,off,cur,ty,fz,S3,e1,e2,tok b (hsub b (by simp)) (OF.1 e2).1,e3,e4,fun c hc=>tok c (hsub c (by simp[hc])) (ak.lt _ _ _ e4 c hc)⟩,ih _ _ q2 (fun b hb=>hsub b (by simp[hb]))⟩
     exact key caps us S h1 (fun b hb=>hb)
   |mp hs=>exact k3.elim
 ·intro r k hk;rw[i1]at hk;cases e:eN 0 ds ps r with
  |none=>simp[e]at hk
  | some q=>
    simp[e]at hk;subst hk;obtain⟨cur,ty,f1,f2,f3⟩:=cellq e;refine⟨q.b,q.off,cur,ty,by simp[G,e],?_,f1,f2,fun j hj=>by simp[G,e,f3 j hj]⟩;rw[owP q.b ⟨q,mem e,rfl⟩];simp[G,e]
 ·intro r j x hx;rw[i2]at hx;cases e:eN 0 ds ps r with
  |none=>simp[e]at hx
  | some q=>
    simp only[e,W7,VO]at hx;obtain⟨hv,e1,rfl⟩:=hx;obtain⟨c,k1,k2,k3,k4,k5,k6⟩:=BV e1;refine⟨hv,q.hs.length,true,rfl,by rw[i1,e];rfl,(IT.1 k1).1,?_⟩;unfold cR;rw[k4];cases c with
    | own l=>
      obtain⟨m1,m2,m3⟩:=h.own q (mem e) j l k1;simp only[G,e,WA,Wk];exact⟨m1,m2,fun b hb=>⟨owO r j q l e k1 b hb,m3 b hb⟩⟩
    | ro l=>
      obtain⟨m1,m2⟩:=h.ro q (mem e) j l k1;simp only[G,e,WA,Wk];exact⟨q.fp j,m1,fun b hb=>owR b (bC.lt _ _ _ m1 b hb) (m2 b hb)⟩
    |gone=>exact absurd k1 (h.gone q (mem e) j)
 ·intro r x hx;rw[i1]at hx;cases e:eN 0 ds ps r with
  |none=>simp[e]at hx
  |some q=>simp[e]at hx;exact⟨_,_,hx.symm⟩
 ·intro r b hb;cases e:eN 0 ds ps r with
  |none=>simp[G,e]at hb
  |some q=>exact⟨q.hs.length,by rw[i1,e];rfl⟩
 ·intro b t hb;simp only[G]at hb;split at hb
  ·rename_i ho;obtain⟨q,hq,j,l,e1,e2⟩:=ho;exact bC.lt _ _ _ (h.own q hq j l e1).1 b e2
  ·split at hb
   ·rename_i hp;obtain⟨q,hq,rfl⟩:=hp;obtain⟨cur,ty,f1,_⟩:=h.cell q hq;exact(OF.1 f1).1
   ·split at hb
    ·rename_i c;exact c
    ·cases hb
 ·intro b hb hf;exact .inr (owR b hb hf)
 ·intro r j hv e i hi;rw[av,i2]at e;cases e0:eN 0 ds ps r with
  |none=>simp[e0]at e
  | some q=>
    simp only[e0,W7,VO]at e;obtain⟨hv',e1,e2⟩:=e;cases e2;obtain⟨c,k1,k2,k3,k4,k5,k6⟩:=BV e1;cases c with
    | own l'=>
      rw[k5 l' rfl]at hi;cases al with
      |false=>cases hi
      | true=>
        cases hi;rw[Wc];show _=anc _;rw[hanc2 r q j l' rfl e0 k1];simp[G,e0]
    | ro l'=>
      rw[k6 (by simp)]at hi;cases hi;rw[Wc];show _=anc _;rw[hanc r q j l' e0 k1];simp[G,e0]
    |gone=>exact absurd k1 (h.gone q (mem e0) j)
 ·intro r x hx;cases e:eN 0 ds ps r with
  |none=>simp[e]at hx
  |some q=>exact⟨hx,by rw[i1,e];simp[e]⟩
 ·intro r b off hx;cases e:eN 0 ds ps r with
  |none=>simp[e]at hx
  | some q=>
    simp[e]at hx;obtain⟨rfl,rfl⟩:=hx;obtain⟨cur,ty,f1,f2,f3⟩:=cellq e;exact⟨cur,cur,ty,f1,f1,rfl,fun _ _=>rfl⟩
 ·intro r1 r2 k1 k2 b o1 o2 hne h1 h2 q1 q2;rw[i1]at h1 h2;cases e1:eN 0 ds ps r1 with
  |none=>simp[e1]at h1
  | some a1=>
    cases e2:eN 0 ds ps r2 with
    |none=>simp[e2]at h2
    | some a2=>
      simp[e1]at h1;simp[e2]at h2;simp[G,e1]at q1;simp[G,e2]at q2;obtain⟨rfl,rfl⟩:=q1;obtain⟨q2,rfl⟩:=q2;obtain⟨k,k',hk,m1,m2⟩:=ixne e1 e2 hne;have:=h.sep k k' a1 a2 hk m1 m2 q2.symm;omega
 ·intro r b off hx ha;cases e:eN 0 ds ps r with
  |none=>simp[G,e]at hx
  |some q=>simp[e]at ha
end
end Go.V