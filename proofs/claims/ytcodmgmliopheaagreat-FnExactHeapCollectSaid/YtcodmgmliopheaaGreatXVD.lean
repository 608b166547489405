/-
  A condition generator for functions on trees of data, part 4 of 5: values in memory, contracts, soundness.
-/
import Derived.Test.YtcodmgmliopheaaGreatXVC
import Derived.IntWalk
import Derived.ProofKit
set_option linter.all false
open Go
open Bool renaming false_eq_true->adV,and_eq_true->AI,not_eq_true'->ae3,rec->ahf,or_eq_false_iff->aek,or_eq_true->adJ
open Cell renaming okWide->afF,ok->agv
open Code renaming wp_mono->aeO
open DataW renaming trod->ae7,TrodAll->afn
open Int renaming toNat_natCast->ac4
open IntWalk renaming i64_in->afv
open List renaming mem_cons->acZ,any_cons->aeP,range->adb,flatMap_cons->ad9,filter_filter->aft,filter_congr->aeK,mem_range->ad2,range_add->agO,range_succ->afM,filter_append->aeX,filter_eq_nil_iff->aeL,mem_map->adK,flatMap_append->aeQ,append_nil->adP,any_eq_true->aec,getElem?_eq_getElem->IT,filter_eq_self->afm,length_append->AT,length_cons->ac7,length_nil->ade,getD_eq_getElem?_getD->BY,getElem?_append_left->adj,getElem?_append_right->ac9,getElem?_eq_none->adu,getElem?_eq_some_iff->acW,eq_nil_of_length_eq_zero->adM,length_take->acX,length_drop->ac5,mem_append->If,getElem?_drop->ac6,drop_drop->ad3,take_append_drop->adi,foldl_cons->adk,getElem?_range->afp,length_range->agu,nil_append->ads,map_cons->adH,replicate->adC,getD->ady,range'->afq
open List.cons renaming injEq->adW
open Nat renaming eq_of_beq_eq_true->adh,beq->ad7,lt_or_ge->adZ,add_zero->ac0,le_refl->No,sub_self->afc,zero_add->adt,blt->ag4,blt_eq->ahc,ne_of_beq_eq_false->ae9,add_mul->adc,zero_le->OF,succ_mul->ag5,mul_le_mul_right->adA
open Option renaming isSome_some->af8,bind_some->aeo,getD_some->adw,map_eq_some_iff->ac1,map_some->adR,bind_eq_some_iff->aeD
open Option.some renaming injEq->adB
open Prod.mk renaming injEq->afK
open Region renaming binds->agP,ready->agQ
open Value renaming okWide->aex
open World renaming cell?->afE
open _root_.Array renaming getElem?_toList->adn,getD_eq_getD_getElem?->adE,getElem?_eq_getElem->aeh,getElem?_eq_some_iff->aaB,replicate->aeC,getElem?_append_left->afP
namespace Go.V
section
variable {P : Program} {T : BV} {n : Nat} {g : Gm}
theorem Ox (hT:bI P T){d:Option Tmp}{op:BinOp}{t:TypeId}{x y:Operand}{ls:List Loc}{out:Out}(h:(Ow T ah n d op t x y).Runs g ls out):(Ov P n d op t x y).Runs g ls out:=by
 unfold Ow at h;unfold Ov;refine eB ?_ h;intro a ls h;refine eB ?_ h;intro b ls h;cases a with
 | v a=>
   cases b with
   | v b=>
     cases a with
     | int k a=>
       cases b with
       | int k' b=>
         by_cases hk:k=k'
         ·subst hk;cases op<;>first|exact h|(simp only[MP,Ju,PQ,Jt,AU,MF,beq_self_eq_true,if_true,adV,if_false]at h ⊢;exact h)|(simp only[MP,Ju,PQ,Jt,AU,MF,beq_self_eq_true,if_true,adV,if_false]at h ⊢;exact⟨trivial,h⟩)|(simp[MP,Ju,PQ,Jt,Rd.Runs]at h)
         ·cases op<;>first|exact h|(simp[MP,hk,Rd.Runs]at h)
       |_=>exact h.elim
     | bool a=>
       cases b with
       | bool b=>
         rcases hT.bo t with e|⟨q,e,hb⟩
         ·simp[e,Rd.Runs]at h
         ·cases op<;>first|(simp only[e,hb,af8,UX,Bool.true_and,Bool.and_true,if_true]at h ⊢;exact h)|(simp[UX,Rd.Runs]at h)
       |_=>exact h.elim
     |_=>exact h.elim
   |_=>cases a<;>exact h.elim
 |_=>exact h.elim
theorem QH {d:Option Tmp}{op:UnOp}{x:Operand}{ls:List Loc}{out:Out}(h:(V6 ah n d op x).Runs g ls out):(vUn n d op x).Runs g ls out:=by
 unfold V6 at h;unfold vUn;refine eB ?_ h;intro a ls h;cases a with
 |v a=>cases op<;>cases a<;>exact h
 |_=>cases op<;>exact h
theorem M0 {α:Type}{a:A}{k:Nat->Rd α}{ls:List Loc}{x:α}(h:(R9 ah a k).Runs g ls x):(PW a k).Runs g ls x:=by
 cases a with
 | vn r j ver iv p lo m=>
   refine dM ?_ h;intro hv ls h
   revert h
   generalize hv.c=c;intro h;cases c with
   | own l=>
     refine cM (fun ls h=>?_) h;obtain⟨hs,h⟩:=h;obtain⟨⟨sz,es⟩,e⟩:=Option.isSome_iff_exists.1 hs;obtain⟨rec,o,f1,f2⟩:=rt e;simp only[f1,f2];exact h
   |ro l=>exact h
   |gone=>exact h
 | vw r j ver lo m=>
   refine dM ?_ h;intro hv ls h
   revert h
   generalize hv.c=c;intro h;cases c with
   |own l=>cases l<;>exact h
   |ro l=>exact h
   |gone=>exact h
 |_=>exact h
theorem uH {α:Type}{ti:TI}{a:A}{k' k:aa->List (Nat×Nat)->Rd α}{ls:List Loc}{x:α}(hk:∀ es src ls,(k' es src).Runs g ls x->(k es src).Runs g ls x)(h:(wg ah ti a k').Runs g ls x):(ri ti a k).Runs g ls x:=by
 cases a with
 |nl=>exact hk _ _ _ h
 |ro sz es=>exact cM (fun ls h=>mN id (fun ls h=>hk _ _ _ h) h) h
 | vw r j ver lo m=>
   refine dM ?_ h;intro hv ls h
   revert h
   generalize hv.c=c;intro h;cases c with
   | own l=>cases l with
     | s sz es=>
       refine cM (fun ls h=>?_) h;by_cases hs:o7 ti.slots=true
       ·rw[if_pos hs]at h ⊢;exact mN id (fun ls h=>hk _ _ _ h) h
       ·rw[if_neg hs]at h ⊢;exact mN id (fun ls h=>hk _ _ _ h) h
     |v x=>exact h
     |g=>exact h
     |m _ _=>exact h
   |ro l=>exact h
   |gone=>exact h
 | vn r j ver iv p lo m=>
   refine dM ?_ h;intro hv ls h
   revert h
   generalize hv.c=c;intro h;cases c with
   | own l=>
     refine cM (fun ls h=>?_) h;obtain⟨⟨h1,h2⟩,h⟩:=h;obtain⟨rec,o,f1,f2⟩:=rt h1;simp only[f1,f2,beq_self_eq_true,if_true];exact⟨h2,hk _ _ _ h⟩
   |ro l=>exact h
   |gone=>exact h
 |_=>exact h
theorem GV (hT:bI P T){d:Option Tmp}{t t':TypeId}{s x:Operand}{ls:List Loc}{out:Out}(h:(BI T ah n d t t' s x).Runs g ls out):(uJ P n d t t' s x).Runs g ls out:=by
 revert h
 unfold BI uJ;rcases hT.el t with e|⟨q,e,e2⟩
 ·simp only[e];exact fun h=>h.elim
 simp only[e,e2];intro h
 ·
   obtain⟨e,ti,b⟩:=q;refine cM (fun ls h=>?_) h;refine eB ?_ h;intro a ls h;refine eB ?_ h;intro b ls h;rw[Dy]at h;refine BB ?_ h;intro l og src ls h;cases l with
   | s sz es=>
     refine cM (fun ls h=>?_) h;refine uH ?_ h;intro es2 src2 ls h;exact h
   |v y=>exact h
   |g=>exact h
   |m _ _=>exact h
def FH (g:Gm){α τ:Type}(m:∀ {β:Type},(τ->Rd β)->Rd β)(k':τ->Rd α)(ls:List Loc)(x:α):Prop:=
 ∃ t ls',(k' t).Runs g ls' x/\∀ {β:Type} (k:τ->Rd β) (y:β),(k t).Runs g ls' y->(m k).Runs g ls y
theorem NS {α:Type}{l:Loc}{k':Val->Rd α}{ls:List Loc}{x:α}(h:(rd l k').Runs g ls x):FH g (fun k=>rd l k) k' ls x:=by
 unfold rd at h;obtain⟨ls',e,h⟩:=h;cases hg:g l with
 |none=>simp[hg,Rd.Runs]at h
 | some v=>
   simp only[hg]at h;refine⟨v,ls',h,?_⟩;intro β k y hy;refine⟨ls',e,?_⟩;simp only[hg];exact hy
theorem Qh {α:Type}{d:Nat}{k':R->Rd α}{ls:List Loc}{x:α}(h:(GC d k').Runs g ls x):FH g (fun k=>GC d k) k' ls x:=by
 obtain⟨v,ls',h1,h2⟩:=NS h;cases v with
 |r y=>exact⟨y,ls',h1,fun k z hz=>h2 _ z hz⟩
 |_=>exact h1.elim
theorem yI {α:Type}{r j:Nat}{k':Hv->Rd α}{ls:List Loc}{x:α}(h:(hP r j k').Runs g ls x):FH g (fun k=>hP r j k) k' ls x:=by
 obtain⟨v,ls',h1,h2⟩:=NS h;cases v with
 |h y=>exact⟨y,ls',h1,fun k z hz=>h2 _ z hz⟩
 |_=>exact h1.elim
theorem HL {α:Type}{o:Operand}{k':R->Rd α}{ls:List Loc}{x:α}(h:(ev o k').Runs g ls x):FH g (fun k=>ev o k) k' ls x:=by
 cases o with
 |tmp t=>exact Qh h
 |const c=>exact⟨_,ls,h,fun k y hy=>hy⟩
 |_=>exact h.elim
theorem Lv {α:Type}{slot:Option Nat}{a:A}{k':L->Rd α}{ls:List Loc}{x:α}(h:(IY ah slot a k').Runs g ls x):FH g (fun k=>HE slot a k) k' ls x:=by
 cases slot with
 | none=>
   cases a with
   | v y=>
     simp only[IY]at h;split at h
     ·rename_i hs;exact⟨_,ls,h,fun k z hz=>by simp only[HE,hs,if_true];exact hz⟩
     ·exact h.elim
   |_=>exact h.elim
 | some sz=>
   cases a with
   |nl=>exact⟨_,ls,h,fun k y hy=>hy⟩
   | ro sz' es=>
     simp only[IY]at h;split at h
     ·rename_i hs;exact⟨_,ls,h,fun k z hz=>by simp only[HE,hs,if_true];exact hz⟩
     ·exact h.elim
   | vw r j ver lo m=>
     obtain⟨hv,ls',h1,h2⟩:=yI h;cases hc:hv.c with
     | own l=>cases l with
       | s sz' es=>
         simp only[hc]at h1;split at h1
         ·rename_i hs;exact⟨_,ls',h1,fun k z hz=>h2 _ z (by simp only[hc,hs,if_true];exact hz)⟩
         ·exact h1.elim
       |v x=>simp[hc,Rd.Runs]at h1
       |g=>simp[hc,Rd.Runs]at h1
       |m _ _=>simp[hc,Rd.Runs]at h1
     |ro l=>simp[hc,Rd.Runs]at h1
     |gone=>simp[hc,Rd.Runs]at h1
   | vn r j ver iv p lo m=>
     obtain⟨hv,ls',h1,h2⟩:=yI h;cases hc:hv.c with
     | own l=>
       simp only[hc]at h1;split at h1
       ·rename_i hg;obtain⟨e1,h1⟩:=h1;obtain⟨rec,o,f1,f2⟩:=rt e1;refine⟨_,ls',h1,fun k z hz=>h2 _ z ?_⟩;simp only[hc,hg,if_true,f1,f2,beq_self_eq_true];exact hz
       ·exact h1.elim
     |ro l=>simp[hc,Rd.Runs]at h1
     |gone=>simp[hc,Rd.Runs]at h1
   |_=>exact h.elim
theorem oK {α:Type}:∀ {sl:List (Option Nat)} {as:List A} {k':ay->Rd α} {ls:List Loc} {x:α},(lM ah sl as k').Runs g ls x->FH g (fun k=>gg sl as k) k' ls x
 |[],[],_,ls,_,h=>⟨_,ls,h,fun _ _ hy=>hy⟩
 |[],_::_,_,_,_,h=>h.elim
 |_::_,[],_,_,_,h=>h.elim
 | _::_,_::_,_,_,_,h=>by
   obtain⟨l,ls1,h1,h2⟩:=Lv h;obtain⟨l2,ls2,h3,h4⟩:=oK h1;exact⟨l::l2,ls2,h3,fun k y hy=>h2 _ y (h4 _ y hy)⟩
theorem lC {α:Type}{r:Nat}:∀ {m j:Nat} {k':ay->Rd α} {ls:List Loc} {x:α},(gE r j m k').Runs g ls x->FH g (fun k=>gE r j m k) k' ls x
 |0,_,_,ls,_,h=>⟨_,ls,h,fun _ _ hy=>hy⟩
 | m+1,j,_,_,_,h=>by
   obtain⟨hv,ls1,h1,h2⟩:=yI h;cases hc:hv.c with
   | own l=>
     simp only[hc]at h1;obtain⟨rec,ls2,h3,h4⟩:=lC h1;exact⟨l::rec,ls2,h3,fun k y hy=>h2 _ y (by simp only[hc];exact h4 _ y hy)⟩
   | ro l=>
     simp only[hc]at h1;obtain⟨rec,ls2,h3,h4⟩:=lC h1;exact⟨l::rec,ls2,h3,fun k y hy=>h2 _ y (by simp only[hc];exact h4 _ y hy)⟩
   |gone=>simp[hc,Rd.Runs]at h1
theorem PE {α:Type}{l:Loc}{k':Option Val->Rd α}{ls:List Loc}{x:α}(h:(Rd.get l k').Runs g ls x):FH g (fun k=>Rd.get l k) k' ls x:=by
 obtain⟨ls',e,h⟩:=h;exact⟨g l,ls',h,fun k y hy=>⟨ls',e,hy⟩⟩
theorem nA {α:Type}:∀ {cs:List Hl} {k':aa->Rd α} {ls:List Loc} {x:α},(gN cs k').Runs g ls x->FH g (fun k=>gN cs k) k' ls x
 |[],_,ls,_,h=>⟨_,ls,h,fun _ _ hy=>hy⟩
 | .pt r j::cs,_,_,_,h=>by
   obtain⟨v,ls1,h1,h2⟩:=PE h;dsimp only at h1;split at h1
   ·rename_i n;split at h1
    ·rename_i hj;obtain⟨rec,ls2,h3,h4⟩:=lC h1;obtain⟨recs,ls3,h5,h6⟩:=nA h3;exact⟨rec::recs,ls3,h5,fun k y hy=>h2 _ y (by simp only[hj,if_true];exact h4 _ y (h6 _ y hy))⟩
    ·exact h1.elim
   ·exact h1.elim
 | .rp rec j::cs,_,_,_,h=>by
   simp only[gN]at h;split at h
   ·rename_i hj;obtain⟨recs,ls3,h5,h6⟩:=nA h;exact⟨_,ls3,h5,fun k y hy=>by simp only[gN,hj,if_true];exact h6 _ y hy⟩
   ·exact h.elim
theorem Em {α:Type}{o:Operand}{k':A->Rd α}{ls:List Loc}{x:α}(h:(gV o k').Runs g ls x):FH g (fun k=>gV o k) k' ls x:=by
 obtain⟨v,ls1,h1,h2⟩:=HL h;cases v with
 |one a=>exact⟨a,ls1,h1,fun k y hy=>h2 _ y hy⟩
 |agg as=>exact h1.elim
 |tup rs=>exact h1.elim
theorem Lx (hT:bI P T){α:Type}{t:TypeId}{o:Operand}{k':DV->Rd α}{ls:List Loc}{x:α}(h:(Lw (lk T.ptL t) o k').Runs g ls x):FH g (fun k=>Lw (J3 P t) o k) k' ls x:=by
 obtain⟨v,ls1,h1,h2⟩:=Em h;cases v with
 | pt r j=>
   rcases hT.pt t with e|⟨ti,e,e2⟩
   ·simp[e,Rd.Runs]at h1
   ·simp only[e]at h1;split at h1
    ·rename_i hp;obtain⟨rec,ls2,h3,h4⟩:=lC h1;exact⟨_,ls2,h3,fun k y hy=>h2 _ y (by simp only[e2,hp,if_true];exact h4 _ y hy)⟩
    ·exact h1.elim
 | rp rec j=>
   rcases hT.pt t with e|⟨ti,e,e2⟩
   ·simp[e,Rd.Runs]at h1
   ·simp only[e]at h1;split at h1
    ·rename_i hp;exact⟨_,ls1,h1,fun k y hy=>h2 _ y (by simp only[e2];rw[if_pos hp];exact hy)⟩
    ·exact h1.elim
 | fn f caps=>
   obtain⟨recs,ls2,h3,h4⟩:=nA h1;exact⟨_,ls2,h3,fun k y hy=>h2 _ y (h4 _ y hy)⟩
 |_=>exact h1.elim
theorem Lu (hT:bI P T){α:Type}{t:TypeId}{o:Operand}{k':DV->Rd α}{ls:List Loc}{x:α}(h:(Lt T ah t o k').Runs g ls x):FH g (fun k=>HC P t o k) k' ls x:=by
 unfold Lt at h;rcases hT.ty t with e|⟨ti,e,hti⟩
 ·simp only[e]at h;split at h
  ·rename_i hp;rcases hT.pn t with f|⟨_,_,f⟩
   ·simp[f]at hp
   ·obtain⟨d,ls1,h1,h2⟩:=Lx hT h;exact⟨d,ls1,h1,fun k y hy=>by unfold HC;simp only[f];exact h2 _ y hy⟩
  ·exact h.elim
 ·simp only[e]at h;obtain⟨v,ls1,h1,h2⟩:=HL h;cases v with
  | one a=>
    simp only at h1;split at h1
    ·exact h1.elim
    ·rename_i hb;obtain⟨l,ls2,h3,h4⟩:=oK h1;simp only at h3;split at h3
     ·refine⟨_,ls2,h3,fun k y hy=>?_⟩;unfold HC;simp only[hti];refine h2 _ y ?_;simp only;rw[if_neg hb];exact h4 _ y hy
     ·exact h3.elim
  | agg as=>
    simp only at h1;split at h1
    ·rename_i hb;obtain⟨l,ls2,h3,h4⟩:=oK h1;refine⟨_,ls2,h3,fun k y hy=>?_⟩;unfold HC;simp only[hti];refine h2 _ y ?_;simp only;rw[if_pos hb];exact h4 _ y hy
    ·exact h1.elim
  |tup rs=>exact h1.elim
theorem u9 (hT:bI P T){α:Type}:∀ {ts:List TypeId} {xs:List Operand} {k':List DV->Rd α} {ls:List Loc} {x:α},(D2 T ah ts xs k').Runs g ls x->FH g (fun k=>td P ts xs k) k' ls x
 |[],[],_,ls,_,h=>⟨_,ls,h,fun _ _ hy=>hy⟩
 |[],_::_,_,_,_,h=>h.elim
 |_::_,[],_,_,_,h=>h.elim
 | _::_,_::_,_,_,_,h=>by
   obtain⟨l,ls1,h1,h2⟩:=Lu hT h;obtain⟨l2,ls2,h3,h4⟩:=u9 hT h1;exact⟨l::l2,ls2,h3,fun k y hy=>h2 _ y (h4 _ y hy)⟩
theorem KF {α:Type}{d:Option Tmp}{k':Nat->Rd α}{ls:List Loc}{x:α}(h:(fresh n d k').Runs g ls x):FH g (fun k=>fresh n d k) k' ls x:=by
 cases d with
 |none=>exact h.elim
 | some d=>
   simp only[fresh]at h;split at h
   ·rename_i hlt;obtain⟨ls',e,h⟩:=h;cases hg:g (.meta_ d)with
    | none=>
      simp only[hg]at h;refine⟨d,ls',h,fun k y hy=>?_⟩;simp only[fresh,hlt,if_true,Rd.Runs];exact⟨ls',e,by simp only[hg];exact hy⟩
    |some v=>simp[hg,Rd.Runs]at h
   ·exact h.elim
def DI (P:Program)(ct:CT):Prop:=∀ f ds pre res,ct f ds=some (pre,res)->pre ()->Ku P f ds res
def Ht (P:Program)(mt:MT):Prop:=∀ f mk,mt f=some mk->∀ ds pre outs res,mk ds=some (pre,outs,res)->pre ()->FI P f ds outs res
def Hz (P:Program)(pt:FuncId->Option PK):Prop:=∀ f mk,pt f=some mk->∀ ds pre outs res,mk ds=some (pre,outs,res)->pre ()->FK P f ds outs res
def Hu (P:Program)(nt:FuncId->Option NK):Prop:=∀ f mk,nt f=some mk->∀ ds pre hs,mk ds=some (pre,hs)->pre ()->WN P f ds hs
def Hw (P:Program)(ot:FuncId->Option TD):Prop:=∀ f mk,ot f=some mk->∀ ds pre res,mk ds=some (pre,res)->pre ()->Lo P f ds res
def CN (P:Program)(ct:Kw):Prop:=DI P ct.rd/\Ht P ct.mu/\Hz P ct.pt/\Hu P ct.nw/\Hw P ct.tk
def TN (P:Program)(n:Nat)(o:Oper)(rd:Rd Out):Prop:=
 ∀ (cx:Cx) (G:Gh) (g:Gm) (a:Act) (w:World) (ls:List Loc) (ws:List W),cx.n=n->aO cx G g a w->rd.Runs g ls (.ws ws)->
  ∀ (K:Act->World->Prop) (Q:Exit->Act->World->Prop),(∀ a' w',fc cx (aS g ws) a' w'->K a' w')->o.wp P a w K Q
def fO (P:Program)(n:Nat)(o:Oper)(g:Gm)(ls:List Loc)(ws:List W):Prop:=
 (kx o=none/\(WE P n o).Runs g ls (.ws ws))\/
 (∃ f ts args ds mk res,kx o=some (f,ts,args)/\(DD P n o.dst f ts args).Runs g ls (.call f ds mk)/\Ku P f ds res/\ws=mk res)\/
 (∃ f ts args mk,kx o=some (f,ts,args)/\(∀ ds pre outs res,mk ds=some (pre,outs,res)->pre ()->FI P f ds outs res)/\(wj oE mW sW (nj P) n o.dst (eD P f) ts args mk d9).Runs g ls (.ws ws))\/
 ∃ rd,TN P n o rd/\rd.Runs g ls (.ws ws)
theorem KP {α:Type}{slot:Option Nat}{a:A}{k' k:L->List Pl->Rd α}{x:α}{ls:List Loc}(hk:∀ l p ls,(k' l p).Runs g ls x->(k l p).Runs g ls x)(h:(Nz oE mW slot a k').Runs g ls x):(Nz oE mW slot a k).Runs g ls x:=by
 cases slot with
 | none=>
   cases a with
   |v y=>exact cM (fun ls h=>hk _ _ _ h) h
   |_=>exact h
 | some sz=>
   cases a with
   | vw r j ver lo m=>
     refine dM ?_ h;intro hv ls h
     revert h
     generalize hv.c=c;intro h;cases c with
     | own l=>cases l with
       |s sz' es=>exact cM (fun ls h=>mN id (fun ls h=>hk _ _ _ h) h) h
       |v x=>exact h
       |g=>exact h
       |m _ _=>exact h
     |ro l=>exact h
     |gone=>exact h
   | vn r j ver iv p lo m=>
     refine dM ?_ h;intro hv ls h
     revert h
     generalize hv.c=c;intro h;cases c with
     | own l=>cases l with
       |s sz' es=>exact cM (fun ls h=>mN id (fun ls h=>hk _ _ _ h) h) h
       |v x=>exact h
       |g=>exact h
       |m _ _=>exact h
     |ro l=>exact h
     |gone=>exact h
   |_=>exact h
theorem qX {α:Type}:∀ {sl:List (Option Nat)} {as:List A} {k' k:ay->List Pl->Rd α} {x:α} {ls:List Loc},(∀ l p ls,(k' l p).Runs g ls x->(k l p).Runs g ls x)->(vS oE mW sl as k').Runs g ls x->(vS oE mW sl as k).Runs g ls x
 |[],[],k',k,x,ls,hk,h=>hk _ _ _ h
 |[],_::_,k',k,x,ls,hk,h=>h
 |_::_,[],k',k,x,ls,hk,h=>h
 |s::sl,a::as,k',k,x,ls,hk,h=>KP (fun l p ls h=>qX (fun _ _ ls h=>hk _ _ ls h) h) h
theorem KR {ty ty':TypeId->Option TI}(ht:∀ t x,ty t=some x->ty' t=some x){α:Type}{t:TypeId}{o:Operand}{k' k:DV->List Pl->Rd α}{x:α}{ls:List Loc}(hk:∀ d p ls,(k' d p).Runs g ls x->(k d p).Runs g ls x) 
 (h:(KQ oE mW ty t o k').Runs g ls x):(KQ oE mW ty' t o k).Runs g ls x:=by
 unfold KQ at h ⊢;cases hti:ty t with
 |none=>simp[hti,Rd.Runs]at h
 | some ti=>
   simp only[hti]at h;simp only[ht t ti hti];refine t9 ?_ h;intro v ls h;cases v with
   | one a=>
     simp only at h ⊢;split at h
     ·exact h.elim
     ·rename_i hb;rw[if_neg hb];refine qX ?_ h;intro l p ls h;split at h
      ·exact hk _ _ _ h
      ·exact h.elim
   | agg as=>
     simp only at h ⊢;split at h
     ·rename_i hb;rw[if_pos hb];exact qX (fun l p ls h=>hk _ _ _ h) h
     ·exact h.elim
   |tup rs=>exact h
theorem Bb {ty ty':TypeId->Option TI}(ht:∀ t x,ty t=some x->ty' t=some x){α:Type}:∀ {ts:List TypeId} {xs:List Operand} {k' k:List DV->List Pl->Rd α} {x:α} {ls:List Loc},(∀ d p ls,(k' d p).Runs g ls x->(k d p).Runs g ls x)->
 (Dp oE mW ty ts xs k').Runs g ls x->(Dp oE mW ty' ts xs k).Runs g ls x
 |[],[],k',k,x,ls,hk,h=>hk _ _ _ h
 |[],_::_,k',k,x,ls,hk,h=>h
 |_::_,[],k',k,x,ls,hk,h=>h
 |t::ts,o::xs,k',k,x,ls,hk,h=>KR ht (fun d p ls h=>Bb ht (fun _ _ ls h=>hk _ _ ls h) h) h
theorem GX (hT:bI P T){o:Oper}{f:FuncId}{ts:Array TypeId}{args:Array Operand}{mk:MK}{ls:List Loc}{ws:List W}(hc:kx o=some (f,ts,args))(hmk:∀ ds pre outs res,mk ds=some (pre,outs,res)->pre ()->FI P f ds outs res) 
 (h:(wj ah.pr ah.ps ah.up (lk T.tyL) n o.dst (lk T.fnL f).isSome ts args mk (gI ah)).Runs g ls (.ws ws)):fO P n o g ls ws:=by
 refine .inr (.inr (.inl ⟨f,ts,args,mk,hc,hmk,?_⟩));rw[show ah.pr=oE from rfl,show ah.ps=mW from rfl,show ah.up=sW from rfl,show gI ah=d9 from by funext d res;exact lI d res]at h;unfold wj at h ⊢;split at h
 ·rename_i hb';have hb:eD P f=true:=by
   rcases hT.fn f with e|⟨_,_,e⟩
   ·rw[e]at hb';cases hb'
   ·exact e
  rw[if_pos hb];refine Bb ?_ (fun _ _ _ h=>h) h;intro t x e;rcases hT.ty t with q|⟨y,q1,q2⟩
  ·rw[q]at e;cases e
  ·rw[q1]at e;cases e;exact q2
 ·exact h.elim
theorem II (hT:bI P T){ct:Kw}(hct:CN P ct){o:Oper}{f:FuncId}{ts:Array TypeId}{args:Array Operand}{ls:List Loc}{ws:List W}(hc:kx o=some (f,ts,args)) 
 (h:(IG T ah ct n o.dst f ts args).Runs g ls (.ws ws)):fO P n o g ls ws:=by
 unfold IG at h;split at h
 ·rename_i hb';have hb:eD P f=true:=by
   rcases hT.fn f with e|⟨_,_,e⟩
   ·rw[e]at hb';cases hb'
   ·exact e
  obtain⟨ds,ls1,h1,h2⟩:=u9 hT h;simp only at h1;split at h1
  ·rename_i pre res he;obtain⟨hp,h1⟩:=h1;obtain⟨d,ls2,h3,h4⟩:=KF h1;simp only[Rd.Runs,Out.ws.injEq]at h3;obtain⟨rfl,rfl⟩:=h3;refine .inr (.inl ⟨f,ts,args,ds,d9 d,res,hc,?_,hct.1 _ _ _ _ he hp,by rw[lI]⟩);unfold DD;rw[if_pos hb];refine h2 _ _ (h4 _ _ ?_);simp[Rd.Runs]
  ·exact h1.elim
 ·exact h.elim
theorem sN {α:Type}{r:Nat}:∀ {m j:Nat} {k':List H->Rd α} {ls:List Loc} {x:α},(oy r j m k').Runs g ls x->FH g (fun k=>oy r j m k) k' ls x
 |0,_,_,ls,_,h=>⟨_,ls,h,fun _ _ hy=>hy⟩
 | m+1,j,_,_,_,h=>by
   obtain⟨hv,ls1,h1,h2⟩:=yI h;cases hc:hv.c with
   | own l=>
     simp only[hc]at h1;obtain⟨rec,ls2,h3,h4⟩:=sN h1;exact⟨.own l::rec,ls2,h3,fun k y hy=>h2 _ y (by simp only[hc];exact h4 _ y hy)⟩
   | ro l=>
     simp only[hc]at h1;obtain⟨rec,ls2,h3,h4⟩:=sN h1;exact⟨.ro l::rec,ls2,h3,fun k y hy=>h2 _ y (by simp only[hc];exact h4 _ y hy)⟩
   |gone=>simp[hc,Rd.Runs]at h1
theorem NB (hT:bI P T){α:Type}{t:TypeId}{o:Operand}{k':DV×List (Nat×Nat)×List mX->Rd α}{ls:List Loc}{x:α} 
 (h:(E0 (fun {β}=>lM ah (α:=β)) (lk T.tyL) (lk T.ptL) (fun t=>(lk T.pnL t).isSome) t o fun d s p=>k' (d,s,p)).Runs g ls x):FH g (fun k=>E0 gg (nj P) (J3 P) (fun _=>true) t o fun d s p=>k (d,s,p)) k' ls x:=by
 unfold E0 at h;rcases hT.ty t with e|⟨ti,e,hti⟩
 ·simp only[e]at h;split at h
  case isFalse=>exact h.elim
  rename_i hp;rcases hT.pn t with f|⟨_,_,f⟩
  ·simp[f]at hp
  obtain⟨v,ls1,h1,h2⟩:=Em h;cases v with
  | pt r j=>
    rcases hT.pt t with e3|⟨ti,e3,e4⟩
    ·simp[e3,Rd.Runs]at h1
    ·simp only[e3]at h1;split at h1
     ·rename_i hpos;obtain⟨hs,ls2,h3,h4⟩:=sN h1;exact⟨(_,_,_),ls2,h3,fun k y hy=>by unfold E0;simp only[f,if_true];exact h2 _ y (by simp only[e4,hpos,if_true];exact h4 _ y hy)⟩
     ·exact h1.elim
  |_=>exact h1.elim
 ·simp only[e]at h;obtain⟨v,ls1,h1,h2⟩:=HL h;cases v with
  | one a=>
    simp only at h1;split at h1
    ·exact h1.elim
    ·rename_i hb;obtain⟨l,ls2,h3,h4⟩:=oK h1;simp only at h3;split at h3
     ·refine⟨(_,_,_),ls2,h3,fun k y hy=>?_⟩;unfold E0;simp only[hti];refine h2 _ y ?_;simp only;rw[if_neg hb];exact h4 _ y hy
     ·exact h3.elim
  | agg as=>
    simp only at h1;split at h1
    ·rename_i hb;obtain⟨l,ls2,h3,h4⟩:=oK h1;refine⟨(_,_,_),ls2,h3,fun k y hy=>?_⟩;unfold E0;simp only[hti];refine h2 _ y ?_;simp only;rw[if_pos hb];exact h4 _ y hy
    ·exact h1.elim
  |tup rs=>exact h1.elim
theorem vT (hT:bI P T){α:Type}:∀ {ts:List TypeId} {xs:List Operand} {k':List DV×List (Nat×Nat)×List mX->Rd α} {ls:List Loc} {x:α},
 (uz (fun {β}=>lM ah (α:=β)) (lk T.tyL) (lk T.ptL) (fun t=>(lk T.pnL t).isSome) ts xs fun d s p=>k' (d,s,p)).Runs g ls x->FH g (fun k=>uz gg (nj P) (J3 P) (fun _=>true) ts xs fun d s p=>k (d,s,p)) k' ls x
 |[],[],_,ls,_,h=>⟨(_,_,_),ls,h,fun _ _ hy=>hy⟩
 |[],_::_,_,_,_,h=>h.elim
 |_::_,[],_,_,_,h=>h.elim
 | t::ts,o::xs,k',_,_,h=>by
   obtain⟨⟨d,s,p⟩,ls1,h1,h2⟩:=NB hT (k':=fun q=>uz (fun {β}=>lM ah (α:=β)) (lk T.tyL) (lk T.ptL) (fun t=>(lk T.pnL t).isSome) ts xs fun ds srcs pts=>k' (q.1::ds,q.2.1++srcs,q.2.2++pts)) h;obtain⟨⟨ds,ss,ps⟩,ls2,h3,h4⟩:=vT hT (k':=fun q=>k' (d::q.1,s++q.2.1,p++q.2.2)) h1;exact⟨(_,_,_),ls2,h3,fun k y hy=>h2 (fun q=>uz gg (nj P) (J3 P) (fun _=>true) ts xs fun ds srcs pts=>k (q.1::ds,q.2.1++srcs,q.2.2++pts)) y (h4 (fun q=>k (d::q.1,s++q.2.1,p++q.2.2)) y hy)⟩
theorem GY (hT:bI P T){o:Oper}{f:FuncId}{ts:Array TypeId}{args:Array Operand}{mk:PK}{ls:List Loc}{ws:List W}(hc:kx o=some (f,ts,args))(hmk:∀ ds pre outs res,mk ds=some (pre,outs,res)->pre ()->FK P f ds outs res) 
 (h:(wm ah.pr (fun {β}=>lM ah (α:=β)) (lk T.tyL) (lk T.ptL) (fun t=>(lk T.pnL t).isSome) n o.dst (lk T.fnL f).isSome ts args mk (gI ah)).Runs g ls (.ws ws)):fO P n o g ls ws:=by
 refine .inr (.inr (.inr ⟨wm oE gg (nj P) (J3 P) (fun _=>true) n o.dst (eD P f) ts args mk d9,?_,?_⟩))
 ·intro cx G g a w ls ws hn hS h K Q hk;subst hn;exact Fo (qI hc) hS hmk h hk
 ·rw[show ah.pr=oE from rfl,show gI ah=d9 from by funext d res;exact lI d res]at h;unfold wm at h ⊢;split at h
  ·rename_i hb';have hb:eD P f=true:=by
    rcases hT.fn f with e|⟨_,_,e⟩
    ·rw[e]at hb';cases hb'
    ·exact e
   rw[if_pos hb];obtain⟨⟨ds,ss,ps⟩,ls1,h1,h2⟩:=vT hT (k':=fun q=>match mk q.1 with
    | some (pre,outs,res)=>if qf q.2.2&&q.2.1.all (fun s=>q.2.2.all fun p=> !Gj s p)then .req (oE pre) (K4 q.2.2 outs fun ws=>match o.dst with
       |some _=>fresh n o.dst fun d=>.ret (Out.ws (ws++d9 d res))
       |none=>.ret (Out.ws ws))else .fail
    |none=>.fail) h
   exact h2 (fun q=>match mk q.1 with
    | some (pre,outs,res)=>if qf q.2.2&&q.2.1.all (fun s=>q.2.2.all fun p=> !Gj s p)then .req (oE pre) (K4 q.2.2 outs fun ws=>match o.dst with
       |some _=>fresh n o.dst fun d=>.ret (Out.ws (ws++d9 d res))
       |none=>.ret (Out.ws ws))else .fail
    |none=>.fail) _ h1
  ·exact h.elim
theorem IF (hT:bI P T){ct:Kw}{d:Option Tmp}{t:Tmp}{ts:Array TypeId}{args:Array Operand}{ls:List Loc}{out:Out} 
 (h:(Fi T ah ct n d t ts args).Runs g ls out):(Fh P ct.rd n d t ts args).Runs g ls out:=by
 unfold Fi at h;obtain⟨v,ls1,h1,h2⟩:=Em h;cases v with
 | fn f caps=>
   obtain⟨ds,ls2,h3,h4⟩:=u9 hT h1;obtain⟨recs,ls3,h5,h6⟩:=nA h3;unfold Fh;refine h2 _ _ (h4 _ _ (h6 _ _ ?_));cases hm:ct.rd f (ds++recs.map .ptr)with
   |none=>simp[hm,Rd.Runs]at h5
   | some pr=>
     obtain⟨pre,res⟩:=pr;simp only[hm]at h5 ⊢;obtain⟨hp,hb,h5⟩:=h5;refine⟨⟨hp,?_⟩,?_⟩
     ·rcases hT.fn f with e|⟨_,_,e⟩
      ·have hb:(lk T.fnL f).isSome=true:=hb;rw[e]at hb;cases hb
      ·exact e
     ·rw[show gI ah=d9 from by funext d res;exact lI d res]at h5;exact h5
 |_=>exact h1.elim
theorem GW (hT:bI P T){d:Option Tmp}{t:Tmp}{ts:Array TypeId}{args:Array Operand}{pt:FuncId->Option PK}{ls:List Loc}{out:Out} 
 (h:(rP oE (fun {β}=>lM ah (α:=β)) (lk T.tyL) (lk T.ptL) (fun t=>(lk T.pnL t).isSome) n d (fun f=>(lk T.fnL f).isSome) t ts args pt (gI ah)).Runs g ls out):
 (rP oE gg (nj P) (J3 P) (fun _=>true) n d (eD P) t ts args pt d9).Runs g ls out:=by
 unfold rP at h ⊢;refine eB ?_ h;intro v ls h;cases v with
 | fn f caps=>
   simp only at h ⊢;cases hm:pt f with
   |none=>simp[hm,Rd.Runs]at h
   | some mk=>
     simp only[hm]at h ⊢;rcases hT.fn f with e|⟨_,e1,e2⟩
     ·simp[e,Rd.Runs]at h
     rw[if_pos e2];rw[if_pos (by rw[e1];rfl)]at h;rw[show gI ah=d9 from by funext d res;exact lI d res]at h;obtain⟨⟨ds,ss,ps⟩,ls1,h1,h2⟩:=vT hT (k':=fun q=>Ah caps fun ds2 pts2=>GQ oE n d (q.1++ds2) q.2.1 (q.2.2++pts2) mk d9) h;exact h2 (fun q=>Ah caps fun ds2 pts2=>GQ oE n d (q.1++ds2) q.2.1 (q.2.2++pts2) mk d9) _ h1
 |_=>exact h.elim
def IH (P:Program)(ct:Kw)(n:Nat)(d:Option Tmp)(t:Tmp)(ts:Array TypeId)(args:Array Operand):Rd Out:=
 gV (.tmp t) fun
  | .fn f _=>match ct.pt f with
    |some _=>rP oE gg (nj P) (J3 P) (fun _=>true) n d (eD P) t ts args ct.pt d9
    |none=>Fh P ct.rd n d t ts args
  |_=>.fail
theorem G0 (hT:bI P T){ct:Kw}(hct:CN P ct){o:Oper}{t:Tmp}{ts:Array TypeId}{args:Array Operand}{ls:List Loc}{ws:List W}(ho:o.op=.call {callee:=.value (.tmp t),args:=args,argTypes:=ts}) 
 (h:(Fq T ah ct n o.dst t ts args).Runs g ls (.ws ws)):fO P n o g ls ws:=by
 refine .inr (.inr (.inr ⟨IH P ct n o.dst t ts args,?_,?_⟩))
 ·intro cx G g a w ls ws hn hS h K Q hk;subst hn;unfold IH at h;obtain⟨x0,ls1,hx,h⟩:=bA hS h;cases x0 with
  | fn f caps=>
    simp only at h;split at h
    ·exact CH ho hS (fun f mk e=>hct.2.2.1 f mk e) h hk
    ·exact Fj (fun f ds pre res e hp=>hct.1 f ds pre res e hp) ho hS h hk
  |_=>exact h.elim
 ·unfold Fq at h;unfold IH;refine eB ?_ h;intro v ls h;cases v with
  | fn f caps=>
    simp only at h ⊢;cases hm:ct.pt f with
    |some mk=>simp only[hm]at h ⊢;exact GW hT h
    |none=>simp only[hm]at h ⊢;exact IF hT h
  |_=>exact h.elim
theorem Jg {α:Type}{x:Operand}{k':A->Rd α}{ls:List Loc}{o:α}(h:(gV x k').Runs g ls o):
 ∃ a ls1 ls',(k' a).Runs g ls' o/\∀ {β:Type} (k:A->Rd β) (ls'':List Loc) (o':β),(k a).Runs g ls'' o'->(gV x k).Runs g (ls1++ls'') o':=by
 unfold gV ev at h;cases x with
 | tmp t=>
   simp only[GC,rd,Rd.Runs]at h;obtain⟨ls',_,h⟩:=h;cases hg:g (.reg t)with
   |none=>simp only[hg]at h;exact h.elim
   | some v=>
     cases v with
     | r y=>
       cases y with
       | one a=>
         simp only[hg]at h;refine⟨a,[.reg t],ls',h,fun k ls'' o' hk=>?_⟩;simp only[gV,ev,GC,rd,Rd.Runs];refine⟨ls'',rfl,?_⟩;rw[hg];exact hk
       |agg _=>simp only[hg]at h;exact h.elim
       |tup _=>simp only[hg]at h;exact h.elim
     |h _=>simp only[hg]at h;exact h.elim
     |m _ _=>simp only[hg]at h;exact h.elim
 | const c=>
   simp only at h;cases hc:Ek c with
   | one a=>
     rw[hc]at h;refine⟨a,[],ls,h,fun k ls'' o' hk=>?_⟩;unfold gV ev;simp only[hc];exact hk
   |agg _=>rw[hc]at h;exact h.elim
   |tup _=>rw[hc]at h;exact h.elim
 |_=>exact h.elim
theorem vO {ln:Ln}{v:Option Val}{a b c:Nat}(h:d8 ln v=some (a,b,c)):∃ hv es,v=some (.h hv)/\hv.c=.own (.s b es)/\a=hv.ver/\c=ln.f es:=by
 unfold d8 at h
 repeat' split at h
 all_goals first|(cases h;done)|(rename_i hv _ sz es e;simp only[adB,afK]at h;obtain⟨rfl,rfl,rfl⟩:=h;exact⟨_,es,rfl,e,rfl,rfl⟩)
theorem Fx {d:Option Tmp}{t:TypeId}{x:Operand}{lo hi mx:Option Operand}{ls:List Loc}{out:Out}(h:(BR T ah n d t x lo hi mx).Runs g ls out):∃ ls2,(uO T ah n d t x lo hi mx).Runs g ls2 out:=by
 unfold BR at h;cases he:lk T.elL t with
 |none=>simp only[he]at h;exact h.elim
 | some q=>
   obtain⟨e,ti,b⟩:=q;cases mx with
   |some _=>simp only[he]at h;exact h.elim
   | none=>
     simp only[he]at h;obtain⟨a,ls1,ls',h1,h2⟩:=Jg h;cases a with
     | vw r j ver lo' m=>
       simp only at h1;obtain⟨ls3,_,h1⟩:=h1
       revert h1;generalize hh:d8 _ (g (.leaf r j))=q;intro h1
       cases q with
       |none=>exact h1.elim
       | some q=>
         obtain⟨v,s,m'⟩:=q;obtain⟨hv,es,e1,e2,e3,e4⟩:=vO hh;simp only at h1;unfold uO;simp only[he];refine⟨_,h2 _ (.leaf r j::ls3) _ ?_⟩;simp only[hP,rd,Rd.Runs];refine⟨ls3,rfl,?_⟩;rw[e1];simp only[e2];subst e3;exact h1
     |_=>exact⟨_,h1⟩
theorem G7 {d:Option Tmp}{t:TypeId}{x:Operand}{ls:List Loc}{out:Out}(h:(uN T ah n d t x).Runs g ls out):∃ ls2,(sZ T ah n d t x).Runs g ls2 out:=by
 unfold uN at h;cases hp:Vz (lk T.tyL t)with
 |false=>simp only[hp]at h;exact⟨_,h⟩
 | true=>
   simp only[hp]at h;cases he:lk T.tyL t with
   |none=>rw[he]at hp;cases hp
   | some ti=>
     rw[he]at hp;simp only[Vz,AI,ae3]at hp;have hz:=adh hp.2;obtain⟨a,ls1,ls',h1,h2⟩:=Jg h;cases a with
     | pt r j=>
       simp only at h1;obtain⟨ls3,_,h1⟩:=h1
       revert h1;generalize hh:d8 _ (g (.leaf r j))=q;intro h1
       cases q with
       |none=>exact⟨_,h1⟩
       | some q=>
         obtain⟨v,s,m'⟩:=q;obtain⟨hv,es,e1,e2,e3,e4⟩:=vO hh;simp only at h1;unfold sZ;simp only[he];refine⟨_,h2 _ (.leaf r j::ls3) _ ?_⟩;simp only[hz,iw,hP,rd,Rd.Runs];refine⟨ls3,rfl,?_⟩;rw[e1];simp only[H0,HZ,e2,P3,hp.1];subst e3 e4;exact h1
     |_=>exact⟨_,h1⟩
theorem Fy (hT:bI P T){o:Oper}{t:TypeId}{x:Operand}{lo hi mx:Option Operand}{ls:List Loc}{ws:List W}(ho:o.op=.slice t x lo hi mx)(h:(uQ T ah n o.dst t x lo hi mx).Runs g ls (.ws ws)):fO P n o g ls ws:=by
 refine .inr (.inr (.inr ⟨uQ T ah n o.dst t x lo hi mx,?_,h⟩));intro cx G g a w ls ws hn hS h K Q hk;subst hn;unfold uQ at h;obtain⟨x0,ls1,_,h⟩:=bA hS h;cases x0 with
 | vn r j ver iv p lo m=>
   simp only at h;refine CL (ls:=ls1) ho hS ?_ hk;unfold yP at h ⊢;rcases hT.el t with e|⟨y,e,e2⟩
   ·rw[e]at h;exact h.elim
   ·rw[e]at h;rw[e2];exact h
 |_=>obtain⟨ls2,h2⟩:=Fx h;exact uR ho hS (IK hT h2) hk
theorem G8 (hT:bI P T){o:Oper}{t:TypeId}{x:Operand}{ls:List Loc}{ws:List W}(ho:o.op=.load t x)(h:(uN T ah n o.dst t x).Runs g ls (.ws ws)):fO P n o g ls ws:=by
 refine .inr (.inr (.inr ⟨uN T ah n o.dst t x,?_,h⟩));intro cx G g a w ls ws hn hS h K Q hk;subst hn;obtain⟨ls2,h2⟩:=G7 h;exact wY ho cx.n cx rfl G g a w _ ws hS (K5 hT h2) K Q hk
theorem wy (hT:bI P T){o:Oper}{t:TypeId}{x i:Operand}{ls:List Loc}{ws:List W}(ho:o.op=.indexAddr t x i)(h:(lG T ah n o.dst t x i).Runs g ls (.ws ws)):fO P n o g ls ws:=by
 refine .inr (.inr (.inr ⟨lG T ah n o.dst t x i,?_,h⟩));intro cx G g a w ls ws hn hS h K Q hk;subst hn;unfold lG at h;rcases hT.el t with e|⟨q,e,e2⟩
 ·simp only[e]at h;exact h.elim
 obtain⟨e0,ti,b⟩:=q;simp only[e]at h;obtain⟨x0,ls1,hx,h⟩:=bA hS h;cases x0 with
 | vw r j ver lo m=>
   simp only at h;obtain⟨ls3,_,h⟩:=h
   revert h;generalize hh:d8 _ (g (.leaf r j))=q;intro h
   cases q with
   |none=>exact h.elim
   | some q=>
     obtain⟨v,s,m'⟩:=q;obtain⟨hv,es,e1,e3,e4,e5⟩:=vO hh;simp only at h;split at h
     case isFalse=>exact h.elim
     rename_i hb;simp only[AI,beq_iff_eq]at hb;obtain⟨hver,hsz⟩:=hb;obtain⟨kd,idx,ls4,hi,h⟩:=eV hS h;obtain⟨⟨h0,h1⟩,h⟩:=h;exact BN ho hS e2 hx hi (au.2 e1) (by rw[e3,hsz]) (by rw[<-hver,e4]) h0 h1 h hk
 |_=>exact oX ho hS (BM hT h) hk
theorem CG (hT:bI P T){o:Oper}{t t':TypeId}{s x:Operand}{ls:List Loc}{ws:List W}(ho:o.op=.call {callee:=.builtin .append,args:= #[s,x],argTypes:= #[t,t']})(h:(rO T ah n o.dst t t' s x).Runs g ls (.ws ws)):fO P n o g ls ws:=by
 refine .inr (.inr (.inr ⟨rO T ah n o.dst t t' s x,?_,h⟩));intro cx G g a w ls ws hn hS h K Q hk;subst hn;unfold rO at h;obtain⟨x0,ls1,_,h⟩:=bA hS h;cases x0 with
 | vn r j ver iv p lo m=>
   simp only at h;refine BH (ls:=ls1) ho hS ?_ hk
   revert h
   unfold uK;rcases hT.el t with e|⟨q,e,e2⟩
   ·simp only[e];exact fun h=>h.elim
   simp only[e,e2];intro h;obtain⟨e0,ti,b⟩:=q;refine cM (fun ls h=>?_) h;refine eB ?_ h;intro a ls h;cases a with
   | vn r j ver iv p lo m=>
     refine dM ?_ h;intro hv ls h
     revert h
     generalize hv.c=c;intro h;cases c with
     | own l=>cases l with
       | s sz es=>
         refine cM (fun ls h=>?_) h;refine eB ?_ h;intro b ls h;refine uH ?_ h;intro es2 src2 ls h;exact h
       |_=>exact h
     |_=>exact h
   |_=>exact h
 |_=>exact sr ho hS (GV hT h) hk
theorem FA (hT:bI P T){o:Oper}{t:TypeId}{x y:Operand}{ls:List Loc}{ws:List W}(ho:o.op=.store t x y)(hd:o.dst=none)(h:(BS T ah t x y).Runs g ls (.ws ws)):fO P n o g ls ws:=by
 refine .inr (.inr (.inr ⟨ev y fun
  | .one (.vn _ _ _ _ _ _ _)=>uT oE mW (fun es lo m=>(es.drop lo).take m) sW (nj P) t x y
  |_=>wA P t x y,?_,?_⟩))
 ·intro cx G g a w ls ws hn hS h K Q hk;subst hn;obtain⟨x0,ls1,_,h⟩:=eW hS h;split at h
  ·exact CM ho hd hS h hk
  ·exact uU ho hd hS h hk
 ·unfold BS at h;refine t9 ?_ h;intro v ls h;split at h
  ·try simp only
   unfold uT at h ⊢;rcases hT.ty t with e|⟨z,e,e2⟩
   ·rw[e]at h;exact h.elim
   ·rw[e]at h;rw[e2];exact h
  ·rename_i hne
   first
    |exact BU hT h
    | (split
       ·exact absurd rfl (hne _ _ _ _ _ _ _)
       ·exact BU hT h)
theorem CJ (hT:bI P T){o:Oper}{t:TypeId}{r:Option Operand}{ls:List Loc}{ws:List W}(ho:o.op=.makeMap t r)(h:(oY (lk T.mpL) n o.dst t r).Runs g ls (.ws ws)):fO P n o g ls ws:=by
 refine .inr (.inr (.inr ⟨oY (EX P) n o.dst t r,?_,?_⟩))
 ·intro cx G g a w ls ws hn hS h K Q hk;subst hn;exact BO ho hS h hk
 ·unfold oY at h ⊢;rcases hT.mp t with e|⟨x,e,e2⟩
  ·cases r<;>simp[e,Rd.Runs]at h
  ·rw[e]at h;rw[e2];exact h
theorem Hb (hT:bI P T){o:Oper}{t:TypeId}{x:Operand}{ls:List Loc}{ws:List W}(ho:o.op=.range t x)(h:(wz (lk T.mpL) n o.dst t x).Runs g ls (.ws ws)):fO P n o g ls ws:=by
 refine .inr (.inr (.inr ⟨wz (EX P) n o.dst t x,?_,?_⟩))
 ·intro cx G g a w ls ws hn hS h K Q hk;subst hn;exact Fw ho hS h hk
 ·unfold wz at h ⊢;rcases hT.mp t with e|⟨y,e,e2⟩
  ·simp[e,Rd.Runs]at h
  ·rw[e]at h;rw[e2];exact h
theorem G4 {o:Oper}{x:Operand}{ls:List Loc}{ws:List W}(ho:o.op=.entry x)(h:(BK n o.dst x).Runs g ls (.ws ws)):fO P n o g ls ws:=by
 refine .inr (.inr (.inr ⟨BK n o.dst x,?_,h⟩));intro cx G g a w ls ws hn hS h K Q hk;subst hn;exact Fs ho hS h hk
theorem G5 (hT:bI P T){o:Oper}{t:TypeId}{x:Operand}{f:Nat}{ls:List Loc}{ws:List W}(ho:o.op=.field t x f)(h:(wv (lk T.cmL) n o.dst t x f).Runs g ls (.ws ws)):fO P n o g ls ws:=by
 refine .inr (.inr (.inr ⟨wv (Xj P) n o.dst t x f,?_,?_⟩))
 ·intro cx G g a w ls ws hn hS h K Q hk;subst hn;exact Ft ho hS h hk
 ·unfold wv at h ⊢;rcases hT.cm t with e|⟨y,e,e2⟩
  ·rw[e]at h;exact h.elim
  ·rw[e]at h;rw[e2];exact h
theorem Fu (hT:bI P T){o:Oper}{t:TypeId}{x i:Operand}{k:Bool}{ls:List Loc}{ws:List W}(ho:o.op=.lookup t x i k)(h:(rQ mgbI jO (lk T.mpL) n o.dst t x i k).Runs g ls (.ws ws)):fO P n o g ls ws:=by
 refine .inr (.inr (.inr ⟨rQ mgbI jO (EX P) n o.dst t x i k,?_,?_⟩))
 ·intro cx G g a w ls ws hn hS h K Q hk;subst hn;exact CI ho hS h hk
 ·unfold rQ at h ⊢;rcases hT.mp t with e|⟨y,e,e2⟩
  ·cases k<;>simp[e,Rd.Runs]at h
  ·rw[e]at h;rw[e2];exact h
theorem Fv (hT:bI P T){o:Oper}{t:TypeId}{m k v:Operand}{ls:List Loc}{ws:List W}(ho:o.op=.mapUpdate t m k v)(hd:o.dst=none)(h:(rR o6 (lk T.mpL) t m k v).Runs g ls (.ws ws)):fO P n o g ls ws:=by
 refine .inr (.inr (.inr ⟨rR o6 (EX P) t m k v,?_,?_⟩))
 ·intro cx G g a w ls ws hn hS h K Q hk;subst hn;exact CK ho hd hS h hk
 ·unfold rR at h ⊢;rcases hT.mp t with e|⟨y,e,e2⟩
  ·simp[e,Rd.Runs]at h
  ·rw[e]at h;rw[e2];exact h
theorem BP (hT:bI P T){o:Oper}{t:TypeId}{m k:Operand}{ls:List Loc}{ws:List W}(ho:o.op=.mapEntry t m k)(h:(lJ mgbI jO o6 (lk T.mpL) n o.dst t m k).Runs g ls (.ws ws)):fO P n o g ls ws:=by
 refine .inr (.inr (.inr ⟨lJ mgbI jO o6 (EX P) n o.dst t m k,?_,?_⟩))
 ·intro cx G g a w ls ws hn hS h K Q hk;subst hn;exact yv ho hS h hk
 ·unfold lJ at h ⊢;rcases hT.mp t with e|⟨y,e,e2⟩
  ·simp[e,Rd.Runs]at h
  ·rw[e]at h;rw[e2];exact h
theorem wq (hT:bI P T){o:Oper}{t:TypeId}{m s x:Operand}{ls:List Loc}{ws:List W}(ho:o.op=.entryStore t m s x)(hd:o.dst=none)(h:(iC o6 (lk T.mpL) t m s x).Runs g ls (.ws ws)):fO P n o g ls ws:=by
 refine .inr (.inr (.inr ⟨iC o6 (EX P) t m s x,?_,?_⟩))
 ·intro cx G g a w ls ws hn hS h K Q hk;subst hn;exact uM ho hd hS h hk
 ·unfold iC at h ⊢;rcases hT.mp t with e|⟨y,e,e2⟩
  ·simp[e,Rd.Runs]at h
  ·rw[e]at h;rw[e2];exact h
theorem K1 {tk:∀ {β:Type},List (Option Nat)->List A->(List (L×Option Nat)->List (Nat×Nat)->Rd β)->Rd β}(hT:bI P T)(htk:∀ {β:Type}, @tk β= @dh β){α:Type}{t:TypeId}{x:Operand}{k' k:DV->List (Nat×Nat)->Rd α}{y:α}{ls:List Loc} 
 (hk:∀ d s ls,(k' d s).Runs g ls y->(k d s).Runs g ls y) (h:(K0 tk (lk T.tyL) t x k').Runs g ls y):(K0 dh (nj P) t x k).Runs g ls y:=by
 unfold K0 at h ⊢;rcases hT.ty t with e|⟨ti,e,e2⟩
 ·rw[e]at h;exact h.elim
 ·rw[e]at h;rw[e2];refine t9 ?_ h;intro v ls h;cases v with
  | one a=>
    simp only[htk]at h ⊢;split at h
    ·exact h.elim
    ·rename_i hag;rw[if_neg hag];refine jd ?_ h;intro lts src ls h;split at h
     ·exact hk _ _ _ h
     ·exact h.elim
  | agg as=>
    simp only[htk]at h ⊢;split at h
    ·rename_i hag;rw[if_pos hag];refine jd ?_ h;intro lts src ls h;exact hk _ _ _ h
    ·exact h.elim
  |tup rs=>exact h.elim
theorem Bz {tk:∀ {β:Type},List (Option Nat)->List A->(List (L×Option Nat)->List (Nat×Nat)->Rd β)->Rd β}(hT:bI P T)(htk:∀ {β:Type}, @tk β= @dh β){α:Type}:∀ {ts:List TypeId} {xs:List Operand} {k' k:List DV->List (Nat×Nat)->Rd α} {y:α} {ls:List Loc},
 (∀ d s ls,(k' d s).Runs g ls y->(k d s).Runs g ls y)->(Bw tk (lk T.tyL) ts xs k').Runs g ls y->(Bw dh (nj P) ts xs k).Runs g ls y
 |[],[],k',k,y,ls,hk,h=>hk _ _ _ h
 |[],_::_,k',k,y,ls,hk,h=>h.elim
 |_::_,[],k',k,y,ls,hk,h=>h.elim
 | t::ts,x::xs,k',k,y,ls,hk,h=>by
   simp only[Bw]at h ⊢;refine K1 hT htk ?_ h;intro d s ls h;exact Bz hT htk (fun d s ls h=>hk _ _ _ h) h
theorem GZ (hT:bI P T){o:Oper}{c:Call}{f:FuncId}{mk:TD}{ls:List Loc}{ws:List W}(e1:o.op=.call c)(e2:c.callee=.value (.func f))(hmk:∀ ds pre res,mk ds=some (pre,res)->pre ()->Lo P f ds res) 
 (h:(wn (fun {β}=>kh ah (α:=β)) (lk T.tyL) oE n o.dst (lk T.fnL f).isSome c.argTypes c.args mk (gI ah)).Runs g ls (.ws ws)):fO P n o g ls ws:=by
 refine .inr (.inr (.inr ⟨wn dh (nj P) oE n o.dst (eD P f) c.argTypes c.args mk d9,?_,?_⟩))
 ·intro cx G g a w ls ws hn hS h K Q hk;subst hn;obtain⟨cal,as,ats⟩:=c;simp only at e2;subst e2;exact Fp e1 hS hmk h hk
 ·unfold wn at h ⊢;rcases hT.fn f with e|⟨_,e,e3⟩
  ·rw[e]at h;exact h.elim
  ·rw[if_pos e3];rw[if_pos (by rw[e];rfl)]at h;rw[show gI ah=d9 from by funext d res;exact lI d res]at h;exact Bz hT (by intro β;funext sl as k;exact ki sl as k) (fun _ _ _ h=>h) h
theorem Nl (b:Bool):mmO ah b=vQ b:=by
 funext vs
 match vs with
 |[]=>rfl
 |[x]=>cases x<;>rfl
 | [x,y]=>
   cases x<;>cases y<;>first|rfl|skip
   rename_i k a k' b';simp only[mmO,vQ];by_cases e:k=k'
   ·subst e;simp only[beq_self_eq_true,if_true];rfl
   ·simp[e]
 |x::y::z::vs=>cases x<;>cases y<;>rfl
theorem OC (hT:bI P T){ct:Kw}(hct:CN P ct){o:Oper}{ls:List Loc}{ws:List W}(h:(qh T ah ct n o).Runs g ls (.ws ws)):fO P n o g ls ws:=by
 by_cases hc:∃ c f,o.op=.call c/\c.callee=.value (.func f)
 ·obtain⟨c,f,e1,e2⟩:=hc;unfold qh at h;simp only[e1,e2]at h;cases hnw:ct.nw f with
  | some mk=>
    simp only[hnw]at h;exact h.elim
  |none=>
  simp only[hnw]at h;cases htk:ct.tk f with
  | some mk=>
    simp only[htk]at h;exact GZ hT e1 e2 (hct.2.2.2.2 f mk htk) h
  |none=>
  simp only[htk]at h;cases hpt:ct.pt f with
  | some mk=>
    simp only[hpt]at h;exact GY hT (by unfold kx;simp only[e1,e2]) (hct.2.2.1 f mk hpt) h
  |none=>
  simp only[hpt]at h;cases hmu:ct.mu f with
  | none=>
    simp only[hmu]at h;exact II hT hct (by unfold kx;simp only[e1,e2]) h
  | some mk=>
    simp only[hmu]at h;exact GX hT (by unfold kx;simp only[e1,e2]) (hct.2.1 f mk hmu) h
 by_cases hc2:∃ c t,o.op=.call c/\c.callee=.value (.tmp t)
 ·obtain⟨c,t,e1,e2⟩:=hc2;unfold qh at h;simp only[e1,e2]at h;exact G0 hT hct (by rw[e1];obtain⟨cal,as,ats⟩:=c;simp only at e2;rw[e2]) h
 by_cases hsl:∃ t x lo hi mx,o.op=.slice t x lo hi mx
 ·obtain⟨t,x,lo,hi,mx,e1⟩:=hsl;unfold qh at h;simp only[e1]at h;exact Fy hT e1 h
 by_cases hst:∃ t x y,o.op=.store t x y
 ·obtain⟨t,x,y,e1⟩:=hst;unfold qh at h;simp only[e1]at h;split at h
  ·rename_i hd;exact FA hT e1 hd h
  ·exact h.elim
 by_cases hix:∃ t x i,o.op=.indexAddr t x i
 ·obtain⟨t,x,i,e1⟩:=hix;unfold qh at h;simp only[e1]at h;exact wy hT e1 h
 by_cases hap:∃ s x t t',o.op=.call {callee:=.builtin .append,args:= #[s,x],argTypes:= #[t,t']}
 ·obtain⟨s,x,t,t',e1⟩:=hap;unfold qh at h;simp only[e1]at h;exact CG hT e1 h
 by_cases hld:∃ t x,o.op=.load t x
 ·obtain⟨t,x,e1⟩:=hld;unfold qh at h;simp only[e1]at h;exact G8 hT e1 h
 by_cases hmk:∃ t r,o.op=.makeMap t r
 ·obtain⟨t,r,e1⟩:=hmk;unfold qh at h;simp only[e1]at h;exact CJ hT e1 h
 by_cases hfi:∃ t x f,o.op=.field t x f
 ·obtain⟨t,x,f,e1⟩:=hfi;unfold qh at h;simp only[e1]at h;exact G5 hT e1 h
 by_cases hrg:∃ t x,o.op=.range t x
 ·obtain⟨t,x,e1⟩:=hrg;unfold qh at h;simp only[e1]at h;exact Hb hT e1 h
 by_cases hen:∃ x,o.op=.entry x
 ·obtain⟨x,e1⟩:=hen;unfold qh at h;simp only[e1]at h;exact G4 e1 h
 by_cases hlo:∃ t x i k,o.op=.lookup t x i k
 ·obtain⟨t,x,i,k,e1⟩:=hlo;unfold qh at h;simp only[e1]at h;exact Fu hT e1 h
 by_cases hme:∃ t m k,o.op=.mapEntry t m k
 ·obtain⟨t,m,k,e1⟩:=hme;unfold qh at h;simp only[e1]at h;exact BP hT e1 h
 by_cases hes:∃ t m s x,o.op=.entryStore t m s x
 ·obtain⟨t,m,s,x,e1⟩:=hes;unfold qh at h;simp only[e1]at h;split at h
  ·rename_i hd;exact wq hT e1 hd h
  ·exact h.elim
 by_cases hup:∃ t m k v,o.op=.mapUpdate t m k v
 ·obtain⟨t,m,k,v,e1⟩:=hup;unfold qh at h;simp only[e1]at h;split at h
  ·rename_i hd;exact Fv hT e1 hd h
  ·exact h.elim
 ·refine .inl ⟨?_,?_⟩
  ·unfold kx;split
   ·rename_i c e1;split
    ·rename_i f e2;exact absurd ⟨c,f,e1,e2⟩ hc
    ·rfl
   ·rfl
  ·unfold qh at h;unfold WE;generalize hop:o.op=op at h hc hc2 hmk hfi hrg hen hlo hme hes hup hsl hst hld hix hap ⊢;cases op with
   |makeMap t r=>exact absurd ⟨t,r,rfl⟩ hmk
   |field t x f=>exact absurd ⟨t,x,f,rfl⟩ hfi
   |range t x=>exact absurd ⟨t,x,rfl⟩ hrg
   |entry x=>exact absurd ⟨x,rfl⟩ hen
   |lookup t x i k=>exact absurd ⟨t,x,i,k,rfl⟩ hlo
   |mapUpdate t m k v=>exact absurd ⟨t,m,k,v,rfl⟩ hup
   |mapEntry t m k=>exact absurd ⟨t,m,k,rfl⟩ hme
   |entryStore t m s x=>exact absurd ⟨t,m,s,x,rfl⟩ hes
   | call c=>
     simp only at h ⊢;cases hcal:c.callee with
     | value x=>
       cases x with
       |func f=>exact absurd ⟨c,f,rfl,hcal⟩ hc
       |tmp t=>exact absurd ⟨c,t,rfl,hcal⟩ hc2
       |_=>simp only[hcal]at h;exact h.elim
     | builtin b=>
       simp only[hcal]at h ⊢;cases b with
       | len=>
         simp only at h ⊢;split at h
         ·rename_i x t e1 e2;simp only[e1,e2];rcases hT.sl t with e|⟨_,e,e3⟩
          ·simp[e,Rd.Runs]at h
          simp only[e,e3,af8,if_true]at h ⊢;refine eB ?_ h;intro a ls h;exact M0 h
         ·exact h.elim
       | append=>
         simp only at h ⊢;split at h
         ·rename_i s x t t' e1 e2;exfalso;refine hap ⟨s,x,t,t',?_⟩;rw[<-hcal, <-FN e1, <-Dz e2]
         ·exact h.elim
       |min=>simp only[Nl]at h ⊢;exact h
       |max=>simp only[Nl]at h ⊢;exact h
       |_=>exact h
     |_=>simp only[hcal]at h;exact h.elim
   |box t x=>exact OA hT h
   |alloc t=>exact IB hT h
   |build t parts=>exact IE hT h
   |fieldAddr s x f=>exact BL hT h
   |buildSlice t len parts=>exact yu hT h
   |load t x=>exact absurd ⟨t,x,rfl⟩ hld
   |store t x y=>exact absurd ⟨t,x,y,rfl⟩ hst
   |indexAddr t x i=>exact absurd ⟨t,x,i,rfl⟩ hix
   |binOp op t x y t'=>exact Ox hT h
   |unOp op t x=>exact QH h
   |makeSlice t l c=>exact K6 hT h
   |slice t x lo hi mx=>exact absurd ⟨t,x,lo,hi,mx,rfl⟩ hsl
   |assign x=>exact h
   |pick c a b=>exact h
   | convert s t x=>
     simp only at h ⊢;refine sJ ?_ h;intro _ a ls h;rcases hT.it s with e|⟨k1,e,e3⟩
     ·simp[e,Rd.Runs]at h
     rcases hT.it t with f|⟨k2,f,f3⟩
     ·simp[e,f,Rd.Runs]at h
     simp only[e,e3,f,f3]at h ⊢;exact h
   |_=>exact h
end
end Go.V
namespace Go.V
def LN (b:Bool)(A B:Unit->Prop):Prop:=(ahf (motive:=fun _=>Unit->Prop) B A b:Unit->Prop) ()
theorem bD {b:Bool}{A B:Unit->Prop}(h1:b=true->A ())(h2:b=false->B ()):(ahf (motive:=fun _=>Unit->Prop) B A b:Unit->Prop) ():=by
 cases b with
 |true=>exact h1 rfl
 |false=>exact h2 rfl
def Rd.wpU {α:Type}(g:Gm):Rd α->List Loc->(List Loc->α->Prop)->Prop
 | .fail,_,_=>False
 | .ret a,t,K=>K t a
 | .get l k,t,K=>(k (g l)).wpU g (l::t) K
 | .req c k,t,K=>c/\k.wpU g t K
 | .br b k1 k2,t,K=>LN b (fun _=>k1.wpU g t K) (fun _=>k2.wpU g t K)
 | .peek r j ln k,t,K=>(k (d8 ln (g (.leaf r j)))).wpU g (.hd r j::t) K
theorem Rd.wpU_runs {α:Type}{g:Gm}:∀ {rd:Rd α} {t:List Loc} {K:List Loc->α->Prop},rd.wpU g t K->∃ ls x t',rd.Runs g ls x/\K t' x/\(∀ l∈ls,l∈t')/\(∀ l∈t,l∈t')
 | .fail,_,_,h=>h.elim
 | .ret b,t,_,h=>⟨[],b,t,⟨rfl,rfl⟩,h,by simp,fun _ h=>h⟩
 | .get l k,t,_,h=>by
   obtain⟨ls,x,t',h1,h2,h3,h4⟩:=Rd.wpU_runs (rd:=k (g l)) h;refine⟨l::ls,x,t',⟨ls,rfl,h1⟩,h2,?_,fun y hy=>h4 y (by simp[hy])⟩;intro y hy;rcases acZ.1 hy with rfl|hy;exact h4 _ (by simp);exact h3 _ hy
 | .req c k,t,_,h=>by
   obtain⟨ls,x,t',h1,h2,h3⟩:=Rd.wpU_runs (rd:=k) h.2;exact⟨ls,x,t',⟨h.1,h1⟩,h2,h3⟩
 | .br b k1 k2,t,_,h=>by
   cases b with
   |true=>obtain⟨ls,x,t',h1,h2⟩:=Rd.wpU_runs (rd:=k1) h;exact⟨ls,x,t',.inl ⟨rfl,h1⟩,h2⟩
   |false=>obtain⟨ls,x,t',h1,h2⟩:=Rd.wpU_runs (rd:=k2) h;exact⟨ls,x,t',.inr ⟨rfl,h1⟩,h2⟩
 | .peek r j ln k,t,K,h=>by
   obtain⟨ls,x,t',h1,h2,h3,h4⟩:=Rd.wpU_runs (rd:=k (d8 ln (g (.leaf r j)))) h;refine⟨.hd r j::ls,x,t',⟨ls,rfl,h1⟩,h2,?_,fun y hy=>h4 y (by simp[hy])⟩;intro y hy;rcases acZ.1 hy with rfl|hy;exact h4 _ (by simp);exact h3 _ hy
def Di :Ln:=⟨List.length,fun _ _ h=>h⟩
theorem Mu {ln:Ln}{x y:Option Val}(h:d8 Di x=d8 Di y):d8 ln x=d8 ln y:=by
 unfold d8 at h ⊢
 repeat' split at h
 all_goals first|(cases h;done)|rfl|(simp only[adB,afK]at h;obtain⟨h1,h2,h3⟩:=h;simp only[*];rw[ln.ok _ _ h3])|(simp only[*])
def same (g g':Gm):Loc->Prop
 | .hd r j=>g' (.hd r j)=g (.hd r j)/\d8 Di (g' (.leaf r j))=d8 Di (g (.leaf r j))
 |l=>g' l=g l
theorem same.get {g g':Gm}{l:Loc}(h:same g g' l):g' l=g l:=by
 cases l<;>first|exact h|exact h.1
theorem Rd.Runs_congr {α:Type}{g g':Gm}:∀ {rd:Rd α} {ls:List Loc} {x:α},rd.Runs g ls x->(∀ l∈ls,same g g' l)->rd.Runs g' ls x
 | .fail,_,_,h,_=>h
 | .ret b,_,_,h,_=>h
 | .get l k,_,_,h,hg=>by
   obtain⟨ls',e,h⟩:=h;subst e;refine⟨ls',rfl,?_⟩;rw[(hg l (by simp)).get];exact Rd.Runs_congr h (fun y hy=>hg y (by simp[hy]))
 | .req c k,_,_,h,hg=>⟨h.1,Rd.Runs_congr h.2 hg⟩
 | .br b k1 k2,_,_,h,hg=>by
   rcases h with⟨e,h⟩|⟨e,h⟩;exact .inl ⟨e,Rd.Runs_congr h hg⟩;exact .inr ⟨e,Rd.Runs_congr h hg⟩
 | .peek r j ln k,_,_,h,hg=>by
   obtain⟨ls',e,h⟩:=h;subst e;refine⟨ls',rfl,?_⟩;have e:=hg (.hd r j) (by simp);rw[Mu (ln:=ln) e.2];exact Rd.Runs_congr h (fun y hy=>hg y (by simp[hy]))
def Kn (n:Nat)(o:Oper)(ws:List W):Prop:=
 match o.dst with
 |some d=>d<n/\ws=[.reg d (.one (.v undef))]
 |none=>ws=[]
def DK (P:Program)(n:Nat)(all:Array Oper)(o:Oper)(g:Gm)(t:List Loc)(ws:List W):Prop:=
 ∃ ls b,(AP all o).Runs g ls b/\(∀ l∈ls,l∈t)/\
  ((b=true/\∃ ls2,fO P n o g ls2 ws/\∀ l∈ls2,l∈t)\/(b=false/\Kn n o ws))
theorem fO.congr {P:Program}{n:Nat}{o:Oper}{g g':Gm}{ls:List Loc}{ws:List W}(h:fO P n o g ls ws)(hg:∀ l∈ls,same g g' l):fO P n o g' ls ws:=by
 rcases h with⟨h1,h2⟩|⟨f,ts,args,ds,mk,res,h1,h2,h3,h4⟩|⟨f,ts,args,mk,h1,h2,h3⟩|⟨rd,h1,h2⟩;exact .inl ⟨h1,Rd.Runs_congr h2 hg⟩;exact .inr (.inl ⟨f,ts,args,ds,mk,res,h1,Rd.Runs_congr h2 hg,h3,h4⟩);exact .inr (.inr (.inl ⟨f,ts,args,mk,h1,h2,Rd.Runs_congr h3 hg⟩));exact .inr (.inr (.inr ⟨rd,h1,Rd.Runs_congr h2 hg⟩))
theorem DK.congr {P:Program}{n:Nat}{all:Array Oper}{o:Oper}{g g':Gm}{t:List Loc}{ws:List W}(h:DK P n all o g t ws)(hg:∀ l∈t,same g g' l):DK P n all o g' t ws:=by
 obtain⟨ls,b,h1,h2,h3⟩:=h;refine⟨ls,b,Rd.Runs_congr h1 (fun l hl=>hg l (h2 l hl)),h2,?_⟩;rcases h3 with⟨e,ls2,h4,h5⟩|h3;exact .inl ⟨e,ls2,h4.congr (fun l hl=>hg l (h5 l hl)),h5⟩;exact .inr h3
section
variable {P : Program} {cx : Cx} {a : Act} {w : World}
theorem fO.sound {o:Oper}{g:Gm}{ls:List Loc}{ws:List W}(h:fO P cx.n o g ls ws)(hS:fc cx g a w){K:Act->World->Prop}{Q:Exit->Act->World->Prop} 
 (hk:∀ a' w',fc cx (aS g ws) a' w'->K a' w'):o.wp P a w K Q:=by
 obtain⟨G,hS⟩:=hS;rcases h with⟨_,h2⟩|⟨f,ts,args,ds,mk,res,h1,h2,h3,rfl⟩|⟨f,ts,args,mk,h1,h2,h3⟩|⟨rd,h1,h2⟩;exact K8 hS h2 hk;exact G3 (qI h1) hS h2 h3 hk;exact Fl (qI h1) hS h3 h2 hk;exact h1 cx G g a w _ _ rfl hS h2 K Q hk
theorem DK.sound {all:Array Oper}{o:Oper}{g:Gm}{t:List Loc}{ws:List W}(h:DK P cx.n all o g t ws)(hS:fc cx g a w){K:Act->World->Prop}{Q:Exit->Act->World->Prop} 
 (hk:∀ a' w',fc cx (aS g ws) a' w'->K a' w'):
 if Region.wanted o (yielded all a.tmps)then o.wp P a w K Q\/(o.asks P a w/\LetsOut Q)else K (a.put o.dst undef) w:=by
 obtain⟨ls,b,h1,_,h3⟩:=h;obtain⟨G,hG⟩:=id hS;have hw:=Ev hG h1;rcases h3 with⟨rfl,ls2,h4,_⟩|⟨rfl,h3⟩
 ·rw[if_pos hw];exact .inl (h4.sound hS hk)
 ·rw[if_neg (by rw[hw];simp)];unfold Kn at h3;cases hd:o.dst with
  | none=>
    simp only[hd]at h3;subst h3;exact hk _ _ (by simpa[Act.put,aS]using hS)
  | some d=>
    simp only[hd]at h3;obtain⟨hlt,rfl⟩:=h3;refine hk _ _ ⟨G,?_⟩;exact hG.put hlt (by simp[cT,jg])
end
inductive WK where
 |reg (d:Nat)
 |leaf (r j:Nat)
 |root (r:Nat)
 |gap (r j:Nat)
def keyOf :W->WK
 | .reg d _=>.reg d
 | .leaf r j _=>.leaf r j
 | .root r _ _=>.root r
 | .gap r j _=>.gap r j
def WK.hits :WK->Loc->Bool
 | .reg d,.reg d'=>d.beq d'
 | .leaf r j,.leaf r' j'=>r.beq r'&&j.beq j'
 | .gap r j,.leaf r' j'=>r.beq r'&&j.beq j'
 | .root r,.leaf r' _=>r.beq r'
 | .root r,.meta_ r'=>r.beq r'
 |_,_=>false
def WK.hitR :WK->Loc->Bool
 | .leaf r j,.hd r' j'=>r.beq r'&&j.beq j'
 | .root r,.hd r' _=>r.beq r'
 |k,l=>k.hits l
def cI (ws:List W)(l:Loc):Bool:=ws.any fun x=>(keyOf x).hits l
def gf (ws:List W)(l:Loc):Bool:=ws.any fun x=>(keyOf x).hitR l
theorem jp {g:Gm}{x:W}{l:Loc}(h:(keyOf x).hits l=false):x.app g l=g l:=by
 cases x<;>cases l<;>simp only[keyOf,WK.hits,W.app]at h ⊢ <;>first|rfl|(rw[if_neg];intro e;cases e;simp at h)|(rw[if_neg];intro e;subst e;simp at h)
theorem IW {g g':Gm}{x:W}{l:Loc}(h:(keyOf x).hits l=true):x.app g l=x.app g' l:=by
 cases x<;>cases l<;>simp_all [keyOf,WK.hits,W.app]
theorem o8 {l:Loc}:∀ {ws:List W} {g:Gm},cI ws l=false->aS g ws l=g l
 |[],_,_=>rfl
 | x::ws,g,h=>by
   simp only[cI,aeP,aek]at h;simp only[aS];rw[o8 (ws:=ws) h.2,jp h.1]
theorem D1 {l:Loc}:∀ {ws:List W} {g g':Gm},g l=g' l->aS g ws l=aS g' ws l
 |[],_,_,h=>h
 | x::ws,g,g',h=>by
   simp only[aS];refine D1 (ws:=ws) ?_;cases hx:(keyOf x).hits l with
   |true=>exact IW hx
   |false=>rw[jp hx,jp hx,h]
theorem tc {l:Loc}:∀ {ws:List W} {g g':Gm},cI ws l=true->aS g ws l=aS g' ws l
 |[],_,_,h=>by simp[cI]at h
 | x::ws,g,g',h=>by
   simp only[cI,aeP,adJ]at h;simp only[aS];cases hx:(keyOf x).hits l with
   |true=>exact D1 (IW hx)
   | false=>
     rw[hx]at h;exact tc (h.resolve_left (by simp))
def pL (g:Gm)(ws:List W):Prop:=∀ r j,gf ws (.hd r j)=false->d8 Di (aS g ws (.leaf r j))=d8 Di (g (.leaf r j))
def Gc (O:DZ)(g:Gm):List W->Prop->Prop
 |[],K=>K
 | .gap r j x::ws,K=>match x.c with
   | .own (.s sz es)=>match g (.leaf r j)with
     | some (.h y)=>match y.c with
       | .own (.s sz' es')=>match x.ver.beq y.ver&&sz.beq sz' with
         |true=>O.pr (fun _=>es.length=es'.length)/\Gc O g ws K
         |false=>False
       |_=>False
     |_=>False
   |_=>False
 |_::ws,K=>Gc O g ws K
theorem AF {g:Gm}{K:Prop}:∀ {ws:List W},Gc ah g ws K->K
 |[],h=>h
 | .reg _ _::ws,h=>AF (ws:=ws) h
 | .leaf _ _ _::ws,h=>AF (ws:=ws) h
 | .root _ _ _::ws,h=>AF (ws:=ws) h
 | .gap r j x::ws,h=>by
   simp only[Gc]at h
   repeat' split at h
   all_goals first|exact h.elim|exact AF h.2
theorem uh {g:Gm}{K:Prop}{r j:Nat}:∀ {ws:List W} {g':Gm},Gc ah g ws K->d8 Di (g' (.leaf r j))=d8 Di (g (.leaf r j))->gf ws (.hd r j)=false->d8 Di (aS g' ws (.leaf r j))=d8 Di (g (.leaf r j))
 |[],_,_,h,_=>h
 | .reg d x::ws,g',h,e,ht=>by
   simp only[gf,aeP,aek]at ht;refine uh (ws:=ws) h ?_ ht.2;rw[jp (by rfl)];exact e
 | .leaf r' j' x::ws,g',h,e,ht=>by
   simp only[gf,aeP,aek]at ht;refine uh (ws:=ws) h ?_ ht.2;rw[jp (by simpa[keyOf,WK.hits,WK.hitR]using ht.1)];exact e
 | .root r' b hs::ws,g',h,e,ht=>by
   simp only[gf,aeP,aek]at ht;refine uh (ws:=ws) h ?_ ht.2;rw[jp (by simpa[keyOf,WK.hits,WK.hitR]using ht.1)];exact e
 | .gap r' j' x::ws,g',h,e,ht=>by
   simp only[gf,aeP,aek]at ht;have h':=h;simp only[Gc]at h'
   repeat' split at h'
   all_goals first|exact h'.elim|skip
   rename_i sz es hx _ y hy _ sz' es' hc _ hb;refine uh (ws:=ws) h'.2 ?_ ht.2;by_cases q:r=r'/\j=j'
   ·obtain⟨rfl,rfl⟩:=q;have h3:es.length=es'.length:=h'.1;simp only[AI]at hb;have b1:=adh hb.1;have b2:=adh hb.2;simp only[W.app,if_true,d8,hx,hy,hc,Di,b1,b2,h3]
   ·rw[jp (by
     simp only[keyOf,WK.hits];cases c1:ad7 r' r with
     |false=>rfl
     | true=>
       cases c2:ad7 j' j with
       |false=>rfl
       |true=>exact absurd ⟨(adh c1).symm,(adh c2).symm⟩ q)]
    exact e
theorem pL.of {g:Gm}{ws:List W}{K:Prop}(h:Gc ah g ws K):pL g ws:=fun _ _ ht=>uh h rfl ht
theorem pL.reg {g:Gm}{d:Nat}{x:R}:pL g [.reg d x]:=pL.of (K:=True) trivial
theorem pL.nil {g:Gm}:pL g []:=pL.of (K:=True) trivial
abbrev Tr :=List (List Loc×List WK)
def HP (all:Array Oper)(o:Oper)(σ:VS)(K:VS->List Loc->Bool->Prop):Prop:=
 match o.guard with
 |none=>K σ [] true
 | some (j,want)=>match all[j]? with
   | some o'=>match o'.dst with
     | some d=>match get σ (.reg d)with
       |some (.r (.one (.v (.bool b))))=>LN b (fun _=>K (.reg d (.k true)::σ) [.reg d] (true==want)) (fun _=>K (.reg d (.k false)::σ) [.reg d] (false==want))
       |some (.r (.one (.v (.tuple _))))=>K σ [.reg d] false
       |_=>False
     |none=>False
   |none=>False
section
variable (T : BV) (O : DZ) (ct : Kw) (n : Nat)
def DG (all:Array Oper):List Oper->VS->Tr->(VS->Tr->Prop)->Prop
 |[],σ,acc,K=>K σ acc
 | o::rest,σ,acc,K=>HP all o σ fun σ t b=>match b with
   | true=>(qh T O ct n o).wpU (get σ) t fun t out=>match out with
     | .ws ws=>Gc O (get σ) ws (DG all rest (push σ ws) ((t,ws.map keyOf)::acc) K)
     | .call _ _ _=>False
   | false=>match o.dst with
     |some d=>if d<n then DG all rest (.reg d (.one (.v undef))::σ) ((t,[.reg d])::acc) K else False
     |none=>DG all rest σ ((t,[])::acc) K
end
inductive K9 (P:Program)(n:Nat)(all:Array Oper):List Oper->Gm->List (List Loc×List W)->Gm->Prop where
 |nil (g:Gm):K9 P n all [] g [] g
 |cons {o:Oper} {rest:List Oper} {g g':Gm} {t:List Loc} {ws:List W} {xs:List (List Loc×List W)}:DK P n all o g t ws->pL g ws->K9 P n all rest (aS g ws) xs g'->K9 P n all (o::rest) g ((t,ws)::xs) g'
theorem Gf {σ:VS}{d:Nat}{x:R}(h:get σ (.reg d)=some (.r x)):get (.reg d x::σ)=get σ:=by
 funext l
 simp only[get,W.app];split
 ·rename_i e;rw[e,h]
 ·rfl
theorem Gi {all:Array Oper}{o:Oper}{σ:VS}{K:VS->List Loc->Bool->Prop}(h:HP all o σ K):
 ∃ σ1 t b,get σ1=get σ/\(AP all o).Runs (get σ) t b/\K σ1 t b:=by
 unfold HP at h;unfold AP;cases hg:o.guard with
 |none=>simp only[hg]at h;exact⟨σ,[],true,rfl,⟨rfl,rfl⟩,h⟩
 | some jw=>
   obtain⟨j,want⟩:=jw;simp only[hg]at h ⊢;cases ho:all[j]? with
   |none=>simp[ho]at h
   | some o'=>
     simp only[ho,aeo]at h ⊢;cases hd:o'.dst with
     |none=>simp[hd]at h
     | some d=>
       simp only[hd]at h ⊢;cases hx:get σ (.reg d)with
       |none=>simp[hx]at h
       | some v=>
         cases v with
         |h x=>simp[hx]at h
         |m a b=>simp[hx]at h
         | r x=>cases x with
           |agg as=>simp[hx]at h
           |tup rs=>simp[hx]at h
           | one a=>cases a with
             | v y=>cases y with
               | bool b=>
                 simp only[hx]at h;cases b with
                 |true=>exact⟨_,_,_,Gf hx,by simp[GC,rd,Rd.Runs,hx],h⟩
                 |false=>exact⟨_,_,_,Gf hx,by simp[GC,rd,Rd.Runs,hx],h⟩
               | tuple vs=>
                 simp only[hx]at h;exact⟨σ,_,_,rfl,by simp[GC,rd,Rd.Runs,hx],h⟩
               |_=>simp[hx]at h
             |_=>simp[hx]at h
theorem rS {P:Program}{T:BV}(hT:bI P T){ct:Kw}(hct:CN P ct){n:Nat}{all:Array Oper}:∀ (ops:List Oper) (σ:VS) (acc:Tr) (K:VS->Tr->Prop),DG T ah ct n all ops σ acc K->
 ∃ xs σ',K9 P n all ops (get σ) xs (get σ')/\K σ' ((xs.map fun x=>(x.1,x.2.map keyOf)).reverse++acc)
 |[],σ,acc,K,h=>⟨[],σ,.nil _,h⟩
 | o::rest,σ,acc,K,h=>by
   simp only[DG]at h;obtain⟨σ1,t,b,e1,h1,h2⟩:=Gi h;cases b with
   | true=>
     simp only at h2;obtain⟨ls2,out,t2,k1,k2,k3,k4⟩:=Rd.wpU_runs h2;cases out with
     |call f ds mk=>exact k2.elim
     | ws ws=>
       simp only at k2;have k5:=pL.of k2;obtain⟨xs,σ',m1,m2⟩:=rS hT hct rest _ _ _ (AF k2);rw[AJ]at m1;rw[e1]at m1 k1 k5;refine⟨(t2,ws)::xs,σ',.cons ⟨t,true,h1,fun l hl=>k4 l hl,.inl ⟨rfl,ls2,OC hT hct k1,k3⟩⟩ k5 m1,?_⟩
       simpa using m2
   | false=>
     simp only at h2;cases hd:o.dst with
     | none=>
       simp only[hd]at h2;obtain⟨xs,σ',m1,m2⟩:=rS hT hct rest _ _ _ h2;rw[e1]at m1;refine⟨(t,[])::xs,σ',.cons ⟨t,false,h1,fun l hl=>hl,.inr ⟨rfl,by simp[Kn,hd]⟩⟩ .nil m1,?_⟩
       simpa using m2
     | some d=>
       simp only[hd]at h2;split at h2
       ·rename_i hlt;obtain⟨xs,σ',m1,m2⟩:=rS hT hct rest _ _ _ h2;have e2:get (W.reg d (.one (.v undef))::σ1)=aS (get σ) [W.reg d (.one (.v undef))]:=by
         simp only[get,aS,e1]
        rw[e2]at m1;refine⟨(t,[.reg d (.one (.v undef))])::xs,σ',.cons ⟨t,false,h1,fun l hl=>hl,.inr ⟨rfl,by simp[Kn,hd,hlt]⟩⟩ .reg m1,?_⟩
        simpa[keyOf]using m2
       ·exact h2.elim
theorem K9.text {P:Program}{cx:Cx}{all:Array Oper}{Q:Exit->Act->World->Prop}:∀ {ops:List Oper} {g g':Gm} {xs:List (List Loc×List W)} {a:Act} {w:World},K9 P cx.n all ops g xs g'->fc cx g a w->
 (∀ a' w',fc cx g' a' w'->Q .normal a' w')->wpList P all Q ops a w
 |_,_,_,_,a,w,.nil g,hS,hk=>hk a w hS
 | _,_,_,_,a,w,.cons he _ hr,hS,hk=>by
   simp only[wpList];exact he.sound hS (fun a' w' hs=>hr.text hs hk)
end Go.V
namespace Go.V
def WK.clash :WK->WK->Bool
 | .reg d,.reg d'=>d.beq d'
 | .leaf r j,.leaf r' j'=>r.beq r'&&j.beq j'
 | .root r,.leaf r' _=>r.beq r'
 | .leaf r _,.root r'=>r.beq r'
 | .root r,.root r'=>r.beq r'
 | .gap r j,.gap r' j'=>r.beq r'&&j.beq j'
 | .gap r j,.leaf r' j'=>r.beq r'&&j.beq j'
 | .leaf r j,.gap r' j'=>r.beq r'&&j.beq j'
 | .root r,.gap r' _=>r.beq r'
 | .gap r _,.root r'=>r.beq r'
 |_,_=>false
theorem FT {k k':WK}{l:Loc}(h:k.hits l=true)(h':k'.hits l=true):k.clash k'=true:=by
 cases k<;>cases k'<;>cases l<;>simp_all [WK.hits,WK.clash]
def sel (bQ:Nat->List W)(p:Nat->Bool)(m:Nat):List W:=((adb m).filter p).flatMap bQ
theorem rr (bQ:Nat->List W)(l:Loc):∀ (is:List Nat) (g:Gm),aS g (is.flatMap bQ) l=aS g ((is.filter fun i=>cI (bQ i) l).flatMap bQ) l
 |[],g=>rfl
 | i::is,g=>by
   simp only[ad9,List.filter_cons,co];cases h:cI (bQ i) l with
   |true=>simp only[if_true,ad9,co];exact rr bQ l is _
   | false=>
     simp only[adV,if_false];rw[<-rr bQ l is g];exact D1 (o8 h)
theorem rJ {bQ:Nat->List W}{p q:Nat->Bool}{m:Nat}{l:Loc}{g:Gm}(h:∀ i,i<m->cI (bQ i) l=true->p i=q i):aS g (sel bQ p m) l=aS g (sel bQ q m) l:=by
 unfold sel;rw[rr,rr bQ l ((adb m).filter q)];have e:((adb m).filter p).filter (fun i=>cI (bQ i) l)=((adb m).filter q).filter (fun i=>cI (bQ i) l):=by
  rw[aft,aft];refine aeK ?_;intro i hi;rw[ad2]at hi;cases ht:cI (bQ i) l with
  |true=>simp[h i hi ht]
  |false=>simp
 rw[e]
theorem Oc {bQ:Nat->List W}{q:Nat->Bool}{m j:Nat}{l:Loc}{g g':Gm}(hj:j<m)(hq:q j=true)(ht:cI (bQ j) l=true)(h:∀ i,j<i->i<m->cI (bQ i) l=true->q i=false):
 aS g (sel bQ q m) l=aS g' (bQ j) l:=by
 have e:aS g (sel bQ q m) l=aS g (sel bQ (fun i=>q i&&decide (i<=j)) m) l:=by
  refine rJ ?_;intro i hi hti;rcases adZ j i with c|c
  ·rw[h i c hi hti];rfl
  ·simp[c]
 rw[e];have hs:(adb m).filter (fun i=>q i&&decide (i<=j))=((adb j).filter q)++[j]:=by
  have:adb m=adb j++[j]++(adb (m- (j+1))).map (fun x=>(j+1)+x):=by
   have e1:adb (j+1+(m- (j+1)))=adb (j+1)++(adb (m- (j+1))).map (fun x=>(j+1)+x):=agO;rw[show j+1+(m- (j+1))=m from by omega]at e1;rw[e1,afM]
  rw[this,aeX,aeX];have e2:(List.map (fun x=>j+1+x) (adb (m- (j+1)))).filter (fun i=>q i&&decide (i<=j))=[]:=by
   rw[aeL];intro a ha;obtain⟨x,_,rfl⟩:=adK.1 ha;simp;intro _;omega
  have e3:(adb j).filter (fun i=>q i&&decide (i<=j))=(adb j).filter q:=by
   refine aeK ?_;intro i hi;rw[ad2]at hi;simp[Nat.le_of_lt hi]
  rw[e2,e3];simp[hq]
 unfold sel;rw[hs,aeQ,co];simp only[ad9,List.flatMap_nil,adP];exact tc ht
theorem GL {bQ:Nat->List W}{p:Nat->Bool}{m:Nat}{g:Gm}:aS g (sel bQ p (m+1))=aS (aS g (sel bQ p m)) (if p m=true then bQ m else[]):=by
 unfold sel;rw[afM,aeX,aeQ,co];cases h:p m<;>simp[h]
theorem GR {ws:List W}{r j:Nat}(h:gf ws (.hd r j)=true):cI ws (.leaf r j)=true:=by
 unfold gf at h;unfold cI;rw[aec]at h ⊢;obtain⟨x,h1,h2⟩:=h;refine⟨x,h1,?_⟩;cases x<;>simp_all [keyOf,WK.hitR,WK.hits]
theorem Iv {bQ:Nat->List W}{g:Gm}{r j:Nat}{p:Nat->Bool}:∀ {m:Nat},
 (∀ k,k<m->p k=true->cI (bQ k) (.leaf r j)=true->∀ i,i<k->cI (bQ i) (.leaf r j)=true->p i=true)->
 (∀ k,k<m->gf (bQ k) (.hd r j)=false->d8 Di (aS (aS g (sel bQ (fun _=>true) k)) (bQ k) (.leaf r j))=d8 Di (aS g (sel bQ (fun _=>true) k) (.leaf r j)))->
 d8 Di (aS g (sel bQ p m) (.leaf r j))=d8 Di (aS g (sel bQ (fun i=>p i&&gf (bQ i) (.hd r j)) m) (.leaf r j))
 |0,_,_=>rfl
 | m+1,hc,hg=>by
   have ih:=Iv (m:=m) (fun k hk=>hc k (by omega)) (fun k hk=>hg k (by omega));rw[GL,GL];cases hp:p m with
   |false=>simpa[hp,aS]using ih
   | true=>
     cases ht:gf (bQ m) (.hd r j)with
     | true=>
       simp only[hp,ht,Bool.and_self,if_true];rw[tc (GR ht)]
     | false=>
       simp only[hp,ht,Bool.and_false,if_true,adV,if_false];show _=d8 Di (aS g (sel bQ (fun i=>p i&&gf (bQ i) (.hd r j)) m) (.leaf r j));rw[<-ih];cases hl:cI (bQ m) (.leaf r j)with
       |false=>rw[o8 hl]
       | true=>
         have e1:aS (aS g (sel bQ p m)) (bQ m) (.leaf r j)=aS (aS g (sel bQ (fun _=>true) m)) (bQ m) (.leaf r j):=tc hl;rw[e1,hg m (by omega) ht];rw[rJ (q:=fun _=>true) (p:=p) (fun i hi hti=>hc m (by omega) hp hl i hi hti)]
theorem Ob {bQ:Nat->List W}{g:Gm}{r j:Nat}{p q:Nat->Bool}{m:Nat} 
 (hp:∀ k,k<m->p k=true->cI (bQ k) (.leaf r j)=true->∀ i,i<k->cI (bQ i) (.leaf r j)=true->p i=true)
 (hq:∀ k,k<m->q k=true->cI (bQ k) (.leaf r j)=true->∀ i,i<k->cI (bQ i) (.leaf r j)=true->q i=true)
 (hg:∀ k,k<m->gf (bQ k) (.hd r j)=false->d8 Di (aS (aS g (sel bQ (fun _=>true) k)) (bQ k) (.leaf r j))=d8 Di (aS g (sel bQ (fun _=>true) k) (.leaf r j)))
 (h:∀ k,k<m->gf (bQ k) (.hd r j)=true->p k=q k):
 d8 Di (aS g (sel bQ p m) (.leaf r j))=d8 Di (aS g (sel bQ q m) (.leaf r j)):=by
 rw[Iv hp hg,Iv hq hg]
 congr 2
 unfold sel
 congr 1
 refine aeK ?_;intro i hi;cases ht:gf (bQ i) (.hd r j)with
 |false=>simp
 |true=>simp[h i (ad2.1 hi) ht]
def rD (o:Oper):List Nat:=o.after.toList.filterMap fun e=>if agP .any e then some e.on else none
def A2 (ms:List Nat):List Nat->Nat
 |[]=>0
 |p::ps=>(1<<<p)|||(ms.getD p 0|||A2 ms ps)
def Gv :List (List Nat)->List Nat->List Nat
 |[],acc=>acc
 |ds::rest,acc=>Gv rest (acc++[A2 acc ds])
def pB (x y:List Loc×List WK):Bool:=
 x.2.any fun k=>y.1.any (fun l=>k.hitR l)||y.2.any (fun k'=>k.clash k')
def oV (x y:List Loc×List WK):Bool:=y.2.any fun k=>x.1.any fun l=>k.hitR l
def JW (mask:Nat)(y:List Loc×List WK):Nat->Tr->Bool
 |_,[]=>true
 |i,x::xs=>(mask.testBit i|| !(pB x y||oV x y))&&JW mask y (i+1) xs
def Ba :List Nat->Tr->Tr->Bool
 |m::ms,xs,y::ys=>JW m y 0 xs&&Ba ms (xs++[y]) ys
 |[],_,[]=>true
 |_,_,_=>false
def EZ :Nat->List (List Nat)->Bool
 |_,[]=>true
 |i,ds::rest=>ds.all (fun p=>p.blt i)&&EZ (i+1) rest
def aP (ops:Array Oper)(tr:Tr):Bool:=
 let ps:=ops.toList.map rD
 EZ 0 ps&&Ba (Gv ps []) [] tr
end Go.V
namespace Go.V
theorem K9.at {P:Program}{n:Nat}{all:Array Oper}:∀ {ops:List Oper} {g g':Gm} {xs:List (List Loc×List W)},K9 P n all ops g xs g'->
 xs.length=ops.length/\g'=aS g (xs.flatMap (·.2))/\∀ j o,ops[j]?=some o->∃ t ws,xs[j]?=some (t,ws)/\DK P n all o (aS g ((xs.take j).flatMap (·.2))) t ws/\pL (aS g ((xs.take j).flatMap (·.2))) ws
 |_,_,_,_,.nil g=>⟨rfl,rfl,fun j o h=>by simp at h⟩
 | _,_,_,_,.cons (t:=t) (ws:=ws) he hg hr=>by
   obtain⟨h1,h2,h3⟩:=K9.at hr;refine⟨by simp[h1],by rw[h2];simp[co],?_⟩;intro j o h;cases j with
   |zero=>simp at h;subst h;exact⟨t,ws,rfl,by simpa[aS]using he,by simpa[aS]using hg⟩
   | succ j=>
     simp at h;obtain⟨t',ws',e1,e2,e3⟩:=h3 j o h;exact⟨t',ws',by simpa using e1,by simpa[co]using e2,by simpa[co]using e3⟩
theorem wh (xs:List (List Loc×List W)):∀ j,j<=xs.length->(xs.take j).flatMap (·.2)=(adb j).flatMap fun i=>(xs.getD i ([],[])).2
 |0,_=>rfl
 | j+1,h=>by
   rw[List.take_succ,afM,aeQ,aeQ,wh xs j (by omega)]
   congr 1
   rw[IT (by omega)];simp[IT (show j<xs.length by omega)]
theorem yn {m j:Nat}(h:j<=m):(adb m).filter (fun i=>decide (i<j))=adb j:=by
 have e1:adb (j+(m-j))=adb j++(adb (m-j)).map (fun x=>j+x):=agO;rw[show j+(m-j)=m from by omega]at e1;rw[e1,aeX];have e2:((adb (m-j)).map (fun x=>j+x)).filter (fun i=>decide (i<j))=[]:=by
  rw[aeL];intro a ha;obtain⟨x,_,rfl⟩:=adK.1 ha;simp
 rw[e2,adP];exact afm.2 (fun a ha=>by simpa using ha)
theorem A3 {S:Nat->Prop}{pr:Nat->List Nat}(hcl:∀ k,S k->∀ p∈pr k,S p):∀ (rest:List (List Nat)) (acc:List Nat),
 (∀ k ds,rest[k]?=some ds->pr (acc.length+k)=ds)->
 (∀ j,j<acc.length->∀ i,(acc.getD j 0).testBit i=true->(∀ p∈pr j,S p)->S i)->
 ∀ j,j<(Gv rest acc).length->∀ i,((Gv rest acc).getD j 0).testBit i=true->(∀ p∈pr j,S p)->S i
 |[],acc,_,h=>h
 | ds::rest,acc,hp,h=>by
   simp only[Gv];refine A3 hcl rest _ ?_ ?_
   ·intro k ds' hk;have:=hp (k+1) ds' (by simpa using hk);simp only[AT,ac7,ade];rw[<-this];congr 1;omega
   ·intro j hj i hi hS;simp only[AT,ac7,ade]at hj;rcases adZ j acc.length with c|c
    ·refine h j c i ?_ hS;rw[BY,adj c]at hi;rw[BY];exact hi
    ·have hj':j=acc.length:=by omega
     subst hj';have e0:=hp 0 ds rfl;rw[ac0]at e0;rw[BY,ac9 (No _)]at hi;simp only[afc,List.getElem?_cons_zero,adw]at hi;rw[e0]at hS;have key:∀ (ps:List Nat),(∀ p∈ps,S p)->(A2 acc ps).testBit i=true->S i:=by
      intro ps
      induction ps with
      |nil=>intro _ hb;simp[A2]at hb
      | cons p ps ih=>
        intro hps hb;simp only[A2,Nat.testBit_or,adJ]at hb;rcases hb with hb|hb|hb
        ·rw[Nat.one_shiftLeft,Nat.testBit_two_pow]at hb;simp at hb;subst hb;exact hps _ (by simp)
        ·rcases adZ p acc.length with c2|c2;exact h p c2 i hb (hcl p (hps p (by simp)))
         ·rw[BY,adu c2]at hb;simp at hb
        ·exact ih (fun q hq=>hps q (by simp[hq])) hb
     exact key ds hS hi
theorem A9 {mask:Nat}{y:List Loc×List WK}:∀ {xs:Tr} {i0:Nat},JW mask y i0 xs=true->∀ i x,xs[i]?=some x->mask.testBit (i0+i)=true\/(pB x y=false/\oV x y=false)
 |[],_,_,i,x,hx=>by simp at hx
 | x0::xs,i0,h,i,x,hx=>by
   simp only[JW,AI,adJ,ae3,aek]at h;cases i with
   |zero=>simp at hx;subst hx;exact h.1
   | succ i=>
     simp at hx;have:=A9 h.2 i x hx;rw[show i0+1+i=i0+(i+1)from by omega]at this;exact this
theorem wQ :∀ {ms:List Nat} {xs ys:Tr},Ba ms xs ys=true->∀ j y,ys[j]?=some y->∃ m,ms[j]?=some m/\∀ i x,(xs++ys)[i]?=some x->i<xs.length+j->m.testBit i=true\/(pB x y=false/\oV x y=false)
 |[],_,[],_,j,y,hy=>by simp at hy
 |_::_,_,[],_,j,y,hy=>by simp at hy
 |[],_,_::_,h,_,_,_=>by simp[Ba]at h
 | m::ms,xs,y0::ys,h,j,y,hy=>by
   simp only[Ba,AI]at h;cases j with
   | zero=>
     simp at hy;subst hy;refine⟨m,rfl,?_⟩;intro i x hx hi;rw[adj (by omega)]at hx;have:=A9 h.1 i x hx
     rwa [adt]at this
   | succ j=>
     simp at hy;obtain⟨m',e1,e2⟩:=wQ h.2 j y hy;refine⟨m',by simpa using e1,?_⟩;intro i x hx hi;refine e2 i x (by simpa using hx) (by simp;omega)
theorem wP :∀ {pss:List (List Nat)} {i0:Nat},EZ i0 pss=true->∀ i ps,pss[i]?=some ps->∀ p∈ps,p<i0+i
 |[],_,_,i,ps,h=>by simp at h
 | q::pss,i0,h,i,ps,hi=>by
   simp only[EZ,AI,List.all_eq_true]at h;cases i with
   | zero=>
     simp at hi;subst hi;intro p hp;have:=h.1 p hp;have h2:p+1<=i0:=by simpa[ag4]using this
     omega
   | succ i=>
     simp at hi;intro p hp;have:=wP h.2 i ps hi p hp;omega
end Go.V
namespace Go.V
def oZ (listed:Array Bool)(i:Nat):Bool:=listed.getD i false
theorem ut {listed:Array Bool}{i k:Nat}(hi:i<listed.size):oZ (listed.setIfInBounds i true) k=(oZ listed k||decide (k=i)):=by
 unfold oZ;by_cases e:k=i
 ·subst e;simp[hi]
 ·rw[getD_set_ne false (Ne.symm e)];simp[e]
def qZ (ops:Array Oper)(k:Nat):List Nat:=match ops[k]? with
 |some o=>rD o
 |none=>[]
theorem wM {o:Oper}{p:Nat}:p∈rD o↔∃ e∈o.after,agP .any e=true/\e.on=p:=by
 unfold rD;simp only[List.mem_filterMap,Array.mem_toList_iff]
 constructor
 ·rintro⟨e,he,h⟩;split at h
  ·rename_i hb;cases h;exact⟨e,he,hb,rfl⟩
  ·cases h
 ·rintro⟨e,he,hb,rfl⟩;exact⟨e,he,by simp[hb]⟩
theorem BD {ws:List W}{l:Loc}:gf ws l=true↔∃ k∈ws.map keyOf,k.hitR l=true:=by
 unfold gf;simp only[aec,adK]
 constructor
 ·rintro⟨x,h1,h2⟩;exact⟨_,⟨x,h1,rfl⟩,h2⟩
 ·rintro⟨k,⟨x,h1,rfl⟩,h2⟩;exact⟨x,h1,h2⟩
theorem Jo {k:WK}{l:Loc}(h:k.hits l=true):k.hitR l=true:=by cases k<;>cases l<;>simp_all [WK.hits,WK.hitR]
theorem kj {ws:List W}{l:Loc}:cI ws l=true↔∃ k∈ws.map keyOf,k.hits l=true:=by
 unfold cI;simp only[aec,adK]
 constructor
 ·rintro⟨x,h1,h2⟩;exact⟨_,⟨x,h1,rfl⟩,h2⟩
 ·rintro⟨k,⟨x,h1,rfl⟩,h2⟩;exact⟨x,h1,h2⟩
section
variable {P : Program} {cx : Cx} {ops : Array Oper} {Q : Exit -> Act -> World -> Prop} {g0 gm : Gm} {xs : List (List Loc × List W)}
theorem Ib {tr:Tr}(hok:aP ops tr=true){j p:Nat}(hp:p∈qZ ops j):p<j:=by
 simp only[aP,AI]at hok;unfold qZ at hp;cases ho:ops[j]? with
 |none=>simp[ho]at hp
 | some o=>
   simp only[ho]at hp;have:=wP hok.1 j (rD o) (by simp[ho]) p hp;omega
theorem pz {tr:Tr}(hok:aP ops tr=true){S:Nat->Prop}(hcl:∀ k,S k->∀ p∈qZ ops k,S p){i j:Nat}{x y:List Loc×List WK}(hij:i<j)(hx:tr[i]?=some x)(hy:tr[j]?=some y) 
 (hS:∀ p∈qZ ops j,S p) (hbad:pB x y=true\/oV x y=true):S i:=by
 simp only[aP,AI]at hok;obtain⟨m,e1,e2⟩:=wQ hok.2 j y hy;have e3:=e2 i x (by simpa using hx) (by simpa using hij);rcases e3 with e3|⟨e3,e4⟩
 ·refine A3 (S:=S) (pr:=qZ ops) hcl (ops.toList.map rD) [] ?_ ?_ j (acW.1 e1).1 i ?_ hS
  ·intro k ds hk;simp only[List.getElem?_map,ac1]at hk;obtain⟨o,ho,rfl⟩:=hk;rw[adn]at ho;simp[qZ,ho]
  ·intro j hj;simp at hj
  ·rw[BY,e1];exact e3
 ·rcases hbad with h|h
  ·rw[e3]at h;cases h
  ·rw[e4]at h;cases h
theorem HK (hrun:K9 P cx.n ops ops.toList g0 xs gm)(hok:aP ops (xs.map fun x=>(x.1,x.2.map keyOf))=true)(hQ:∀ a' w',fc cx gm a' w'->Q .normal a' w'):
 ∀ (fuel:Nat) (listed:Array Bool) (a:Act) (w:World),listed.size=ops.size->((adb ops.size).filter fun i=> !oZ listed i).length<=fuel->
  (∀ k,oZ listed k=true->∀ p∈qZ ops k,oZ listed p=true)->
  fc cx (aS g0 (sel (fun i=>(xs.getD i ([],[])).2) (oZ listed) ops.size)) a w->wpAny P .any ops Q fuel listed a w:=by
 obtain⟨hlen,hgm,hat⟩:=K9.at hrun;have hlen':xs.length=ops.size:=by simpa using hlen
 let bQ:Nat->List W:=fun i=>(xs.getD i ([],[])).2
 have hall:gm=aS g0 (sel bQ (fun _=>true) ops.size):=by
  have:=wh xs xs.length (No _);rw[List.take_length]at this;rw[hgm,this,hlen'];unfold sel;rw[afm.2 (fun _ _=>rfl)]
 have hex:∀ j,j<ops.size->∃ o t,ops[j]?=some o/\xs[j]?=some (t,bQ j)/\DK P cx.n ops o (aS g0 (sel bQ (fun i=>decide (i<j)) ops.size)) t (bQ j)/\pL (aS g0 (sel bQ (fun _=>true) j)) (bQ j):=by
  intro j hj;have ho:ops.toList[j]?=some ops[j]:=by simp[hj]
  obtain⟨t,ws,e1,e2,e4⟩:=hat j _ ho;have hw:bQ j=ws:=by simp[bQ,BY,e1]
  refine⟨ops[j],t,by simp[hj],by rw[hw];exact e1,?_⟩;rw[hw];have e3:=wh xs j (by omega);unfold sel;rw[yn (by omega)];rw[e3]at e2 e4;refine⟨e2,?_⟩;rw[afm.2 (fun _ _=>rfl)];exact e4
 have full:∀ (listed:Array Bool) (a:Act) (w:World),(∀ j,j<ops.size->oZ listed j=true)->fc cx (aS g0 (sel bQ (oZ listed) ops.size)) a w->Q .normal a w:=by
  intro listed a w hl hS;refine hQ a w ?_;rw[hall];have:sel bQ (oZ listed) ops.size=sel bQ (fun _=>true) ops.size:=by
   unfold sel
   congr 1
   exact aeK (fun i hi=>hl i (ad2.1 hi))
  rw[<-this];exact hS
 have noready:∀ (listed:Array Bool),listed.size=ops.size->agQ .any ops listed=[]->∀ j,j<ops.size->oZ listed j=true:=by
  intro listed hsz hr j
  induction j using Nat.strongRecOn with
  | _ j ih=>
    intro hj;cases hl:oZ listed j with
    |true=>rfl
    | false=>
      exfalso;have:j∈agQ .any ops listed:=by
       rw[mem_ready];refine⟨?_,ops[j],by simp[hj],?_⟩
       ·unfold oZ at hl;simp only[adE]at hl ⊢;rw[aeh (by omega)]at hl ⊢
        simpa using hl
       ·intro e he hb;have hp:e.on∈qZ ops j:=by
         simp only[qZ,hj,aeh];exact wM.2 ⟨e,he,hb,rfl⟩
        have hlt:=Ib hok hp;exact ih e.on hlt (by omega)
      rw[hr]at this;cases this
 intro fuel
 induction fuel with
 | zero=>
   intro listed a w hsz hf hcl hS;have hnil:(adb ops.size).filter (fun i=> !oZ listed i)=[]:=adM (by omega);have hl:∀ j,j<ops.size->oZ listed j=true:=by
    intro j hj;have:=aeL.1 hnil j (ad2.2 hj)
    simpa using this
   refine⟨?_,full listed a w hl hS⟩;rw[List.eq_nil_iff_forall_not_mem];intro j hj;obtain⟨h1,o,ho,_⟩:=mem_ready.1 hj;have hjlt:=(aaB.1 ho).1;have:=hl j hjlt;unfold oZ at this;simp only[adE]at h1 this;rw[aeh (by omega)]at h1 this;simp only[adw]at h1 this;rw[h1]at this;cases this
 | succ fuel ih=>
   intro listed a w hsz hf hcl hS;refine⟨fun hr=>full listed a w (noready listed hsz hr) hS,?_⟩;intro i hi;obtain⟨h1,o,ho,hpre⟩:=mem_ready.1 hi;have hilt:=(aaB.1 ho).1;have hni:oZ listed i=false:=by
    unfold oZ;simp only[adE]at h1 ⊢;rw[aeh (by omega)]at h1 ⊢
    simpa using h1
   have hpi:∀ p∈qZ ops i,oZ listed p=true:=by
    intro p hp;simp only[qZ,ho]at hp;obtain⟨e,he,hb,rfl⟩:=wM.1 hp;exact hpre e he hb
   obtain⟨o',t,ho',hxs,hexec,_⟩:=hex i hilt;rw[ho]at ho';cases ho';have htr:∀ k t',xs[k]?=some (t',bQ k)->(xs.map fun x=>(x.1,x.2.map keyOf))[k]?=some (t',(bQ k).map keyOf):=by
    intro k t' h;simp[h]
   have later:∀ k,i<k->k<ops.size->∀ l,cI (bQ k) l=true->(cI (bQ i) l=true\/l∈t)->oZ listed k=false:=by
    intro k hik hk l hl hc;cases hlk:oZ listed k with
    |false=>rfl
    | true=>
      exfalso;obtain⟨o2,t2,ho2,hxs2,_⟩:=hex k hk;have:=pz hok (S:=fun k=>oZ listed k=true) hcl hik (htr i t hxs) (htr k t2 hxs2) (hcl k hlk) (by
       obtain⟨q,hq1,hq2⟩:=kj.1 hl;rcases hc with hc|hc
       ·obtain⟨q',hq3,hq4⟩:=kj.1 hc;refine .inl ?_;simp only[pB,aec,adJ];exact⟨q',hq3,.inr ⟨q,hq1,FT hq4 hq2⟩⟩
       ·refine .inr ?_;simp only[oV,aec];exact⟨q,hq1,l,hc,Jo hq2⟩)
      rw[hni]at this;cases this
   have hexec':DK P cx.n ops o (aS g0 (sel bQ (oZ listed) ops.size)) t (bQ i):=by
    refine hexec.congr ?_;intro l hl;have agree:∀ k,k<ops.size->gf (bQ k) l=true->oZ listed k=decide (k<i):=by
     intro k hk htk;obtain⟨q,hq1,hq2⟩:=BD.1 htk;obtain⟨o2,t2,ho2,hxs2,_⟩:=hex k hk;rcases Nat.lt_trichotomy k i with c|c|c
     ·simp only[c,decide_true];refine pz hok (S:=fun k=>oZ listed k=true) hcl c (htr k t2 hxs2) (htr i t hxs) hpi (.inl ?_);simp only[pB,aec,adJ];exact⟨q,hq1,.inl ⟨l,hl,hq2⟩⟩
     ·subst c;simp[hni]
     ·have:oZ listed k=false:=by
       cases hlk:oZ listed k with
       |false=>rfl
       | true=>
         exfalso;have:=pz hok (S:=fun k=>oZ listed k=true) hcl c (htr i t hxs) (htr k t2 hxs2) (hcl k hlk) (by
          refine .inr ?_;simp only[oV,aec];exact⟨q,hq1,l,hl,hq2⟩)
         rw[hni]at this;cases this
      rw[this];simp;omega
    have plain:aS g0 (sel bQ (oZ listed) ops.size) l=aS g0 (sel bQ (fun i_1=>decide (i_1<i)) ops.size) l:=by
     refine rJ ?_;intro k hk htk;obtain⟨q,hq1,hq2⟩:=kj.1 htk;exact agree k hk (BD.2 ⟨q,hq1,Jo hq2⟩)
    cases l with
    | hd r j=>
      refine⟨plain,Ob ?_ ?_ ?_ agree⟩
      ·intro k hk hlk htk k' hk' htk';obtain⟨o2,t2,ho2,hxs2,_⟩:=hex k hk;obtain⟨o3,t3,ho3,hxs3,_⟩:=hex k' (by omega);obtain⟨q,hq1,hq2⟩:=kj.1 htk;obtain⟨q',hq3,hq4⟩:=kj.1 htk';refine pz hok (S:=fun k=>oZ listed k=true) hcl hk' (htr k' t3 hxs3) (htr k t2 hxs2) (hcl k hlk) (.inl ?_);simp only[pB,aec,adJ];exact⟨q',hq3,.inr ⟨q,hq1,FT hq4 hq2⟩⟩
      ·intro k hk hlk _ k' hk' _;simp at hlk ⊢;omega
      ·intro k hk ht;obtain⟨_,_,_,_,_,hgo⟩:=hex k hk;exact hgo r j ht
    |_=>exact plain
   show wpOp P ops Q i _ a w;unfold wpOp;simp only[ho];refine hexec'.sound hS ?_;intro a' w' hs';refine ih _ a' w' (by simp[hsz]) ?_ ?_ ?_
   ·have e:(adb ops.size).filter (fun k=> !oZ (listed.setIfInBounds i true) k)=((adb ops.size).filter (fun k=> !oZ listed k)).filter (fun k=>decide (k≠i)):=by
     rw[aft];refine aeK ?_;intro k _;rw[ut (by omega)];by_cases hki:k=i<;>simp[hki]
    have hlt:(((adb ops.size).filter (fun k=> !oZ listed k)).filter (fun k=>decide (k≠i))).length<((adb ops.size).filter (fun k=> !oZ listed k)).length:=by
     rw[List.length_filter_lt_length_iff_exists];exact⟨i,List.mem_filter.2 ⟨ad2.2 hilt,by simp[hni]⟩,by simp⟩
    rw[e];omega
   ·intro k hk p hp;rw[ut (by omega)]at hk ⊢;rw[adJ]at hk;rcases hk with hk|hk
    ·rw[hcl k hk p hp];rfl
    ·simp at hk;subst hk;rw[hpi p hp];rfl
   ·have e:aS (aS g0 (sel bQ (oZ listed) ops.size)) (bQ i)=aS g0 (sel bQ (oZ (listed.setIfInBounds i true)) ops.size):=by
     funext l
     cases ht:cI (bQ i) l with
     | true=>
       symm
       refine Oc hilt ?_ ht ?_
       ·rw[ut (by omega)];simp
       ·intro k hik hk htk;rw[ut (by omega),later k hik hk l htk (.inl ht)];simp;omega
     | false=>
       rw[o8 ht];refine rJ ?_;intro k hk htk;rw[ut (by omega)];have:k≠i:=fun e=>by rw[e,ht]at htk;cases htk
       simp[this]
    rw[<-e];exact hs'
theorem GE {id:Nat}{a:Act}{w:World}(hm:P.follows .mixedOrders=true)(hrun:K9 P cx.n ops ops.toList g0 xs gm)(hok:aP ops (xs.map fun x=>(x.1,x.2.map keyOf))=true) 
 (hQ:∀ a' w',fc cx gm a' w'->Q .normal a' w') (hS:∀ a w,fc cx g0 a w->fc cx g0 a {w with drawn:=w.drawn+1}) (hs:fc cx g0 a w):(Code.region id ops true).wp P Q a w:=by
 refine wp_region_any hm ?_;refine HK hrun hok hQ ops.size _ a _ (by simp) ?_ ?_ ?_;exact Nat.le_trans (List.length_filter_le _ _) (by simp)
 ·intro k hk;exfalso;unfold oZ at hk;simp only[adE,Array.getElem?_replicate]at hk;split at hk<;>simp at hk
 ·have:sel (fun i=>(xs.getD i ([],[])).2) (oZ (aeC ops.size false)) ops.size=[]:=by
   unfold sel;have:(adb ops.size).filter (oZ (aeC ops.size false))=[]:=by
    rw[aeL];intro k hk;have hk:=ad2.1 hk;simp[oZ,hk]
   rw[this];rfl
  rw[this];exact hS a w hs
end
end Go.V
namespace Go.V
def Ny :List W->Nat->Option R
 |[],_=>none
 | .reg d x::ws,d'=>if d.beq d' then some x else Ny ws d'
 |_::ws,d'=>Ny ws d'
def Ic :List W->Nat->Nat->Option Hv
 |[],_,_=>none
 | .leaf r j x::ws,r',j'=>if r.beq r'&&j.beq j' then some x else Ic ws r' j'
 |_::ws,r',j'=>Ic ws r' j'
def uo (g:Gm)(ov:List W):List Nat->VS
 |[]=>[]
 | d::ds=>match Ny ov d with
   |some x=>.reg d x::uo g ov ds
   | none=>match g (.reg d)with
     |some (.r x)=>.reg d x::uo g ov ds
     |_=>uo g ov ds
def pq (g:Gm)(ov:List W)(r:Nat):Nat->Nat->List Hv
 |_,0=>[]
 | j,m+1=>match Ic ov r j with
   |some h=>h::pq g ov r (j+1) m
   | none=>match g (.leaf r j)with
     |some (.h h)=>h::pq g ov r (j+1) m
     |_=>⟨0,0,none,.gone⟩::pq g ov r (j+1) m
def vP (g:Gm)(ov:List W):List Nat->VS
 |[]=>[]
 | r::rs=>match g (.meta_ r)with
   |some (.m k box)=>.root r box (pq g ov r 0 k)::vP g ov rs
   |_=>vP g ov rs
def De (σ:VS)(regs roots:List Nat)(ov:List W):VS:=uo (get σ) ov regs++vP (get σ) ov roots
def oT (g whole:Gm)(r j:Nat)(p:Hv->Hv->Prop):Prop:=
 match g (.leaf r j)with
 | some (.h h')=>match whole (.leaf r j)with
   |some (.h h)=>p h' h
   |_=>False
 |_=>False
def tW (whole:Gm):List Hl->Prop
 |[]=>True
 | .pt r _::cs=>(match whole (.meta_ r)with
   |some (.m _ true)=>True
   |_=>False)/\tW whole cs
 | .rp _ _::cs=>tW whole cs
def Uk (g whole:Gm):A->A->Prop
 | .vw r j v' lo n,x=>match x with
   | .vw r2 j2 v lo2 n2=>(ad7 r r2&&ad7 j j2)=true/\lo=lo2/\n=n2/\oT g whole r j fun h' h=>h'.ver=v'/\h.ver=v
   |_=>False
 | .pn r j v' iv' p,x=>match x with
   | .pn r2 j2 v iv p2=>(ad7 r r2&&ad7 j j2)=true/\p=p2/\oT g whole r j fun h' h=>h'.ver=v'/\h.ver=v/\h'.iv=iv'/\h.iv=iv
   |_=>False
 | .vn r j v' iv' p lo n,x=>match x with
   | .vn r2 j2 v iv p2 lo2 n2=>(ad7 r r2&&ad7 j j2)=true/\p=p2/\lo=lo2/\n=n2/\oT g whole r j fun h' h=>h'.ver=v'/\h.ver=v/\h'.iv=iv'/\h.iv=iv
   |_=>False
 | .pt r j,x=>x=.pt r j/\match whole (.meta_ r)with
   |some (.m _ true)=>True
   |_=>False
 | .v y,x=>x=.v y
 | .nl,x=>x=.nl
 | .ro sz es,x=>x=.ro sz es
 | .rp rec j,x=>x=.rp rec j
 | .fn f caps,x=>x=.fn f caps/\tW whole caps
 | .mv r j v',x=>match x with
   | .mv r2 j2 v=>(ad7 r r2&&ad7 j j2)=true/\oT g whole r j fun h' h=>h'.ver=v'/\h.ver=v
   |_=>False
 | .st _ _ _ _ _,_=>False
 | .it es vs,x=>x=.it es vs
 | .un,x=>x=.un
def L5 (g whole:Gm):List A->List A->Prop
 |[],[]=>True
 |y::ys,x::xs=>Uk g whole y x/\L5 g whole ys xs
 |_,_=>False
mutual
def vI (g whole:Gm):R->R->Prop
 | .one y,x=>match x with
   | .one x=>Uk g whole y x
   |_=>False
 | .agg ys,x=>match x with
   | .agg xs=>L5 g whole ys xs
   |_=>False
 | .tup rs,x=>match x with
   | .tup qs=>CY g whole rs qs
   |_=>False
def CY (g whole:Gm):List R->List R->Prop
 | [],xs=>match xs with
   |[]=>True
   |_=>False
 | r::rs,xs=>match xs with
   |q::qs=>vI g whole r q/\CY g whole rs qs
   |_=>False
end
def lH (g:Gm)(r:Nat):Nat->List Hv->Prop
 |_,[]=>True
 | j,h::hs=>(match g (.leaf r j)with
   | some (.h h')=>h'.c=h.c/\match h.org with
     |none=>True
     |some i=>h'.org=some i
   |_=>False)/\lH g r (j+1) hs
def lA (g whole:Gm):VS->Prop
 |[]=>True
 | .reg d x::τ=>(match g (.reg d)with
   |some (.r y)=>vI g whole y x
   |_=>False)/\lA g whole τ
 | .root r box hs::τ=>(match g (.meta_ r)with
   |some (.m k b)=>k=hs.length/\b=box
   |_=>False)/\lH g r 0 hs/\lA g whole τ
 | .leaf _ _ _::_=>False
 | .gap _ _ _::_=>False
def MU (g:Gm):List Nat->Prop
 |[]=>True
 | r::rs=>(match g (.meta_ r)with
   |some (.m _ true)=>True
   |_=>False)/\MU g rs
def WI (an:List Nat)(σ τ:VS):Prop:=lA (get σ) (get τ) τ/\MU (get τ) an
theorem Df {g:Gm}:∀ {an:List Nat},MU g an->∀ r∈an,∃ k,g (.meta_ r)=some (.m k true)
 |[],_,r,h=>by cases h
 | a::an,h,r,hr=>by
   rcases acZ.1 hr with rfl|hr
   ·obtain⟨h,_⟩:=h;split at h
    ·rename_i k e;exact⟨k,e⟩
    ·exact h.elim
   ·exact Df h.2 r hr
section
variable {P : Program} {cx : Cx}
theorem lA.regs {g whole:Gm}:∀ {τ:VS},lA g whole τ->∀ d x,get τ (.reg d)=some x->∃ r y,x=.r r/\g (.reg d)=some (.r y)/\vI g whole y r
 |[],_,d,x,h=>by simp[get]at h
 | .reg d' y::τ,hs,d,x,h=>by
   obtain⟨h1,h3⟩:=hs;simp only[get,W.app]at h;split at h
   ·rename_i e;cases e;cases h;split at h1
    ·rename_i y' e';exact⟨_,_,rfl,e',h1⟩
    ·exact h1.elim
   ·exact lA.regs h3 d x h
 | .root r box hs::τ,hsub,d,x,h=>by
   simp only[get,W.app]at h;exact lA.regs hsub.2.2 d x h
 | .leaf _ _ _::_,hs,_,_,_=>hs.elim
 | .gap _ _ _::_,hs,_,_,_=>hs.elim
theorem lA.metas {g whole:Gm}:∀ {τ:VS},lA g whole τ->∀ r x,get τ (.meta_ r)=some x->(∃ k box,x=.m k box)/\g (.meta_ r)=some x
 |[],_,r,x,h=>by simp[get]at h
 | .reg d' y::τ,hs,r,x,h=>by
   simp only[get,W.app]at h;rw[if_neg (by simp)]at h;exact lA.metas hs.2 r x h
 | .root r' box hs::τ,hsub,r,x,h=>by
   obtain⟨h1,h2,h3⟩:=hsub;simp only[get,W.app]at h;split at h
   ·rename_i e;subst e;cases h;split at h1
    ·rename_i k b e';obtain⟨rfl,rfl⟩:=h1;exact⟨⟨_,_,rfl⟩,e'⟩
    ·exact h1.elim
   ·exact lA.metas h3 r x h
 | .leaf _ _ _::_,hs,_,_,_=>hs.elim
 | .gap _ _ _::_,hs,_,_,_=>hs.elim
theorem lH.at {g:Gm}{r:Nat}:∀ {hs:List Hv} {j i:Nat} {x:Hv},lH g r j hs->hs[i]?=some x->∃ h',g (.leaf r (j+i))=some (.h h')/\h'.c=x.c/\(∀ o,x.org=some o->h'.org=some o)
 |[],_,_,_,_,h=>by simp at h
 | y::hs,j,i,x,hle,h=>by
   obtain⟨h1,h2⟩:=hle;cases i with
   | zero=>
     simp at h;subst h;split at h1
     ·rename_i h' e;refine⟨h',e,h1.1,fun o ho=>?_⟩;have:=h1.2;rw[ho]at this;exact this
     ·exact h1.elim
   | succ i=>
     simp at h;obtain⟨h',e,e2⟩:=lH.at h2 h;exact⟨h',by rw[<-e];congr 2;omega,e2⟩
theorem lA.leaves {g whole:Gm}:∀ {τ:VS},lA g whole τ->∀ r j x,get τ (.leaf r j)=some x->∃ h h' k box,x=.h h/\g (.leaf r j)=some (.h h')/\(h'.c=h.c/\∀ o,h.org=some o->h'.org=some o)/\get τ (.meta_ r)=some (.m k box)/\j<k
 |[],_,r,j,x,h=>by simp[get]at h
 | .reg d' y::τ,hs,r,j,x,h=>by
   simp only[get,W.app]at h ⊢;rw[if_neg (by simp)]at h;rw[if_neg (by simp)];exact lA.leaves hs.2 r j x h
 | .root r' box hs::τ,hsub,r,j,x,h=>by
   simp only[get,W.app]at h ⊢;split at h
   ·rename_i e;subst e;rw[if_pos rfl];simp only[ac1]at h;obtain⟨y,e1,rfl⟩:=h;obtain⟨h',e2,e3⟩:=lH.at hsub.2.1 e1;rw[adt]at e2;exact⟨y,h',_,_,rfl,e2,e3,rfl,(acW.1 e1).1⟩
   ·rename_i e;rw[if_neg e];exact lA.leaves hsub.2.2 r j x h
 | .leaf _ _ _::_,hs,_,_,_,_=>hs.elim
 | .gap _ _ _::_,hs,_,_,_,_=>hs.elim
theorem WI.sim {an:List Nat}(ha:∀ r x,cx.aloc r=some x->r∈an){σ τ:VS}(h:WI an σ τ){a:Act}{w:World}(hS:fc cx (get σ) a w):fc cx (get τ) a w:=by
 obtain⟨G,hS⟩:=hS;obtain⟨h,hk⟩:=h
 open Classical in
 let G':Gh:={G with loc:=fun r=>if∃ k,get τ (.meta_ r)=some (.m k true)then G.loc r else none}
 have pair:∀ r j (p:Hv->Hv->Prop),oT (get σ) (get τ) r j p->∀ h0,gl (get σ) r j=some h0->∃ h1,gl (get τ) r j=some h1/\p h0 h1/\h1.c=h0.c:=by
  intro r j p hs h0 e;rw[au]at e;unfold oT at hs;rw[e]at hs;simp only at hs;split at hs
  ·rename_i h1 e1;obtain⟨y,h',_,_,q1,q2,q3,_⟩:=lA.leaves h r j _ e1;cases q1;rw[e]at q2;cases q2;exact⟨h1,au.2 e1,hs,q3.1.symm⟩
  ·exact hs.elim
 have beq:∀ {r r2 j j2:Nat},(ad7 r r2&&ad7 j j2)=true->r=r2/\j=j2:=by
  intro r r2 j j2 e;simp only[AI]at e;exact⟨adh e.1,adh e.2⟩
 have hA:∀ y x v,Uk (get σ) (get τ) y x->jg (gl (get σ)) G w y v->jg (gl (get τ)) G' w x v:=by
  intro y x v hc hx;cases y with
  | pt r j=>
    obtain⟨rfl,hc⟩:=hc;obtain⟨b,off,e1,e2⟩:=hx;refine⟨b,off,?_,e2⟩;split at hc
    ·rename_i k e;simp only[G'];rw[if_pos ⟨k,e⟩];exact e1
    ·exact hc.elim
  |st _ _ _ _ _=>exact hc.elim
  | mv r j v'=>
    cases x with
    | mv r2 j2 ver=>
      obtain⟨e,hp⟩:=hc;obtain⟨rfl,rfl⟩:=beq e;obtain⟨h0,e1,e2,e3⟩:=hx;obtain⟨h1,f1,⟨f2,f3⟩,f4⟩:=pair r j _ hp h0 e1;exact⟨h1,f1,by omega,fun _ kb es qc=>e3 f2 kb es (by rw[<-f4];exact qc)⟩
    |_=>exact hc.elim
  | vw r j v' lo n=>
    cases x with
    | vw r2 j2 ver lo2 n2=>
      obtain⟨e,rfl,rfl,hp⟩:=hc;obtain⟨rfl,rfl⟩:=beq e;obtain⟨h0,e1,e2,e3⟩:=hx;obtain⟨h1,f1,⟨f2,f3⟩,f4⟩:=pair r j _ hp h0 e1;exact⟨h1,f1,by omega,fun _ sz es qc=>e3 f2 sz es (by rw[<-f4];exact qc)⟩
    |_=>exact hc.elim
  | pn r j v' iv' p=>
    cases x with
    | pn r2 j2 ver iv p2=>
      obtain⟨e,rfl,hp⟩:=hc;obtain⟨rfl,rfl⟩:=beq e;obtain⟨h0,e1,e2,e3,e4,e5⟩:=hx;obtain⟨h1,f1,⟨f2,f3,f5,f6⟩,f4⟩:=pair r j _ hp h0 e1;exact⟨h1,f1,by omega,by omega,e4,fun _ l qc=>e5 (by simp[AN,f2,f5]) l (by rw[<-f4];exact qc)⟩
    |_=>exact hc.elim
  | vn r j v' iv' p lo n=>
    cases x with
    | vn r2 j2 ver iv p2 lo2 n2=>
      obtain⟨e,rfl,rfl,rfl,hp⟩:=hc;obtain⟨rfl,rfl⟩:=beq e;obtain⟨h0,e1,e2,e3,e4,e5⟩:=hx;obtain⟨h1,f1,⟨f2,f3,f5,f6⟩,f4⟩:=pair r j _ hp h0 e1;exact⟨h1,f1,by omega,by omega,e4,fun _ l rec o sz es qc=>e5 (by simp[hN,f2,f5]) l rec o sz es (by rw[<-f4];exact qc)⟩
    |_=>exact hc.elim
  |v y=>have hc:x=_:=hc;subst hc;exact hx
  |nl=>have hc:x=_:=hc;subst hc;exact hx
  |ro sz es=>have hc:x=_:=hc;subst hc;exact hx
  |rp rec j=>have hc:x=_:=hc;subst hc;exact hx
  |un=>have hc:x=_:=hc;subst hc;trivial
  |it es vs=>have hc:x=_:=hc;subst hc;exact hx
  | fn f caps=>
    obtain⟨rfl,hc⟩:=hc;obtain⟨ps,e,hx⟩:=hx;refine⟨ps,e,?_⟩;have key:∀ (caps:List Hl) (ps:List Value),tW (get τ) caps->fk G w caps ps->fk G' w caps ps:=by
     intro caps
     induction caps with
     |nil=>intro ps _ h;exact h
     | cons c cs ih=>
       intro ps hk hx;obtain⟨v,vs',e,h1,h2⟩:=hx;cases c with
       | pt r j=>
         obtain⟨k1,k2⟩:=hk;refine⟨v,vs',e,?_,ih _ k2 h2⟩;obtain⟨b,off,e1,e2⟩:=h1;refine⟨b,off,?_,e2⟩;split at k1
         ·rename_i k e;simp only[G'];rw[if_pos ⟨k,e⟩];exact e1
         ·exact k1.elim
       |rp rec j=>exact⟨v,vs',e,h1,ih _ hk h2⟩
    exact key caps ps hc hx
 have hAs:∀ ys xs vs,L5 (get σ) (get τ) ys xs->b8 (gl (get σ)) G w ys vs->b8 (gl (get τ)) G' w xs vs:=by
  intro ys
  induction ys with
  | nil=>intro xs vs hc hx;cases xs with
    |nil=>exact hx
    |cons _ _=>exact hc.elim
  | cons y ys ih=>
    intro xs vs hc hx;cases xs with
    |nil=>exact hc.elim
    | cons x xs=>
      obtain⟨v,vs',e,h1,h2⟩:=hx;exact⟨v,vs',e,hA y x v hc.1 h1,ih xs vs' hc.2 h2⟩
 have hR:∀ y x v,vI (get σ) (get τ) y x->cT (gl (get σ)) G w y v->cT (gl (get τ)) G' w x v:=by
  intro y
  induction y using R.rec (motive_2:=fun ys=>∀ xs vs,CY (get σ) (get τ) ys xs->jo (gl (get σ)) G w ys vs->jo (gl (get τ)) G' w xs vs)with
  | one y=>
    intro x v hc hx;cases x with
    |one x=>simp only[cT,vI]at*;exact hA y x v hc hx
    |agg _=>simp[vI]at hc
    |tup _=>simp[vI]at hc
  | agg ys=>
    intro x v hc hx;cases x with
    |agg xs=>simp only[cT,vI]at*;obtain⟨vs,e,hx⟩:=hx;exact⟨vs,e,hAs ys xs vs hc hx⟩
    |one _=>simp[vI]at hc
    |tup _=>simp[vI]at hc
  | tup ys ih=>
    intro x v hc hx;cases x with
    |tup xs=>simp only[cT,vI]at*;obtain⟨vs,e,hx⟩:=hx;exact⟨vs,e,ih xs vs hc hx⟩
    |one _=>simp[vI]at hc
    |agg _=>simp[vI]at hc
  | nil=>
    rename_i xs vs hc hx;cases xs with
    |nil=>exact hx
    |cons _ _=>simp[CY]at hc
  | cons r rs ih1 ih2=>
    rename_i xs vs hc hx;cases xs with
    |nil=>simp[CY]at hc
    | cons q qs=>
      simp only[jo,CY]at*;obtain⟨v,vs',e,h1,h2⟩:=hx;exact⟨v,vs',e,ih1 q v hc.1 h1,ih2 qs vs' hc.2 h2⟩
 refine⟨G',hS.defers,hS.tm,?_,?_,?_,?_,?_,hS.lt,hS.frame,hS.frow,?_,?_,hS.afr,?_,?_,hS.roX⟩
 ·intro d x hx;obtain⟨r,y,rfl,he,hc⟩:=lA.regs h d x hx;obtain⟨e1,r',e2,e3⟩:=hS.reg d _ he;cases e2;exact⟨e1,r,rfl,hR y r _ hc e3⟩
 ·intro r k hk;obtain⟨b,off,cur,ty,f1,f2⟩:=hS.boxes r k (lA.metas h r _ hk).2;exact⟨b,off,cur,ty,by simp only[G'];rw[if_pos ⟨k,hk⟩];exact f1,f2⟩
 ·intro r j x hx;obtain⟨y,h',k,box,rfl,q2,q3,q4,q5⟩:=lA.leaves h r j x hx;obtain⟨h0,k0,box0,e1,e2,e3,e4⟩:=hS.leaf r j _ q2;cases e1;refine⟨y,k,box,rfl,q4,q5,?_⟩;unfold eC at e4 ⊢;rw[q3.1]at e4;exact e4
 ·intro r x hx;exact(lA.metas h r x hx).1
 ·intro r b hb;simp only[G']at hb;split at hb
  ·rename_i e;exact e
  ·cases hb
 ·intro r j h0 e i hi;obtain⟨y,h',k,box,e1,q2,q3,q4,q5⟩:=lA.leaves h r j _ (au.1 e);cases e1;exact hS.anc r j h' (au.2 q2) i (q3.2 i hi)
 ·intro r x hx;have:=Df hk r (ha r x hx);simp only[G'];obtain⟨k,hk2⟩:=this;rw[if_pos ⟨k,hk2⟩];obtain⟨g1,g2⟩:=hS.aloc r x hx;have:=(lA.metas h r _ hk2).2;rw[this]at g2;cases g2;exact⟨g1,hk2⟩
 ·intro r1 r2 k1 k2 b o1 o2 hne h1 h2 q1 q2;simp only[G']at q1 q2;rw[if_pos ⟨k1,h1⟩]at q1;rw[if_pos ⟨k2,h2⟩]at q2;exact hS.sep r1 r2 k1 k2 b o1 o2 hne (lA.metas h r1 _ h1).2 (lA.metas h r2 _ h2).2 q1 q2
 ·intro r b off hx ha2;simp only[G']at hx;split at hx
  ·exact hS.newb r b off hx ha2
  ·cases hx
theorem fc.drawn {g:Gm}{a:Act}{w:World}(h:fc cx g a w)(k:Nat):fc cx g a {w with drawn:=k}:=by
 obtain⟨G,hS⟩:=h
 let w':World:={w with drawn:=k}
 have st:Step g G w g G w':=⟨fun r j h hh=>⟨h,hh,.inl ⟨rfl,rfl,fun _ _ _ _=>rfl⟩⟩,fun b hb=>⟨hb,rfl⟩,fun b hb=>⟨hb,rfl⟩,fun r x h=>h⟩;refine⟨G,hS.defers,hS.tm,?_,hS.boxes,?_,hS.metas,hS.noloc,hS.lt,⟨hS.frame.os,hS.frame.tape,hS.frame.output,hS.frame.size,hS.frame.block⟩,hS.frow,hS.anc,hS.aloc,fun r b off e=>(hS.afr r b off e).keep rfl,hS.sep,hS.newb,hS.roX⟩
 ·intro d x hx;obtain⟨e1,r,e2,e3⟩:=hS.reg d x hx;exact⟨e1,r,e2,cT.step hS st _ _ e3⟩
 ·intro r j x hx;obtain⟨h,k',box,e1,e2,e3,e4⟩:=hS.leaf r j x hx;refine⟨h,k',box,e1,e2,e3,?_⟩;unfold eC at e4 ⊢;split at e4
  ·exact⟨bO.keep (w':=w') _ _ _ e4.1 (fun _ _=>rfl),e4.2⟩
  ·obtain⟨S,h1,h2⟩:=e4;exact⟨S,bO.keep (w':=w') _ _ _ h1 (fun _ _=>rfl),h2⟩
  ·trivial
def KG (r:Nat):Nat->Nat->VS->VS
 |_,0,σ=>σ
 | j,m+1,σ=>match get σ (.leaf r j)with
   | some (.h h)=>match h.c with
     | .own (.s sz es)=>KG r (j+1) m (.leaf r j ⟨h.ver+1,h.iv+1,none,.ro (.s sz es)⟩::σ)
     |_=>KG r (j+1) m σ
   |_=>KG r (j+1) m σ
def Mh :List Nat->VS->VS
 |[],σ=>σ
 | r::rs,σ=>match get σ (.meta_ r)with
   |some (.m k _)=>Mh rs (KG r 0 k σ)
   |_=>Mh rs σ
def PC (fz:List (Nat×List Nat))(id:Nat)(σ:VS):VS:=
 match lk fz id with
 |some rs=>Mh rs σ
 |none=>σ
open Classical in
theorem aO.freeze {g:Gm}{G:Gh}{a:Act}{w:World}(hS:aO cx G g a w)(hz:∀ b,cx.ro b){r j:Nat}{h:Hv}{l:L}(hh:g (.leaf r j)=some (.h h))(hc:h.c=.own l):
 fc cx ((W.leaf r j ⟨h.ver+1,h.iv+1,none,.ro l⟩).app g) a w:=by
 have hr:∀ d,(W.leaf r j ⟨h.ver+1,h.iv+1,none,.ro l⟩).app g (.reg d)=g (.reg d):=fun d=>by simp[W.app]
 have hm:∀ d,(W.leaf r j ⟨h.ver+1,h.iv+1,none,.ro l⟩).app g (.meta_ d)=g (.meta_ d):=fun d=>by simp[W.app]
 have hl:∀ r' j',(W.leaf r j ⟨h.ver+1,h.iv+1,none,.ro l⟩).app g (.leaf r' j')=if r'=r/\j'=j then some (.h ⟨h.ver+1,h.iv+1,none,.ro l⟩)else g (.leaf r' j'):=fun r' j'=>by simp[W.app]
 have hok:=hS.hok (au.2 hh);unfold eC at hok;rw[hc]at hok;obtain⟨m1,m2,m3⟩:=hok
 let G':Gh:={G with ow:=fun b=>if b∈G.fp r j then some .ro else G.ow b}
 have hfp:∀ b,b∈G.fp r j->G.ow b=some (.leaf r j):=fun b hb=>(m3 b hb).1
 have owo:∀ b t,G.ow b=some t->t≠ .leaf r j->G'.ow b=some t:=by
  intro b t e hn;simp only[G'];rw[if_neg (fun q=>by rw[hfp b q]at e;cases e;exact hn rfl)];exact e
 have st:Step g G w ((W.leaf r j ⟨h.ver+1,h.iv+1,none,.ro l⟩).app g) G' w:=by
  refine⟨fun r' j' h' e=>?_,fun b hb=>⟨owo b _ hb (by simp),rfl⟩,fun b hb=>⟨owo b _ hb (by simp),rfl⟩,fun _ _ h=>h⟩;by_cases c:r'=r/\j'=j
  ·obtain⟨rfl,rfl⟩:=c;refine⟨⟨h.ver+1,h.iv+1,none,.ro l⟩,au.2 (by rw[hl,if_pos ⟨rfl,rfl⟩]),.inr (.inr ?_)⟩;rw[au,hh]at e;cases e;simp
  ·exact⟨h',au.2 (by rw[hl,if_neg c];exact au.1 e),.inl ⟨rfl,rfl,fun _ _ _ _=>rfl⟩⟩
 have hlt:∀ b t,G'.ow b=some t->b<w.heap.size:=by
  intro b t e;simp only[G']at e;split at e
  ·rename_i q;exact hS.lt b _ (hfp b q)
  ·exact hS.lt b _ e
 have hrow:∀ b,b<cx.w0.heap.size->cx.fr b->G'.ow b=none\/G'.ow b=some .ro:=by
  intro b h1 h2;simp only[G'];split;exact .inr rfl;exact hS.frow b h1 h2
 refine⟨G',hS.defers,hS.tm,?_,?_,?_,?_,?_,hlt,hS.frame,hrow,?_,fun r x e=>by rw[hm];exact hS.aloc r x e,hS.afr,fun r1 r2 k1 k2 b o1 o2 h1 h2 h3=>hS.sep r1 r2 k1 k2 b o1 o2 h1 (by rw[<-hm];exact h2) (by rw[<-hm];exact h3),hS.newb,fun b _=>hz b⟩
 rotate_left 5
 ·intro r' j' h' e;rw[au,hl]at e;by_cases c:r'=r/\j'=j
  ·rw[if_pos c]at e;cases e;exact eT.none
  ·rw[if_neg c]at e;exact hS.anc r' j' h' (au.2 e)
 ·intro d y hy;rw[hr]at hy;obtain⟨e1,y',e2,e3⟩:=hS.reg d y hy;exact⟨e1,y',e2,cT.step hS st _ _ e3⟩
 ·intro r' k hk;rw[hm]at hk;obtain⟨b,off,cur,ty,f1,f2,f3⟩:=hS.boxes r' k hk;exact⟨b,off,cur,ty,f1,owo b _ f2 (by simp),f3⟩
 ·intro r' j' y hy;rw[hl]at hy;by_cases c:r'=r/\j'=j
  ·rw[if_pos c]at hy;cases hy;obtain⟨rfl,rfl⟩:=c;obtain⟨h2,k,box,e1,e2,e3,e4⟩:=hS.leaf _ _ _ hh;refine⟨_,k,box,rfl,by rw[hm];exact e2,e3,?_⟩;refine⟨G.fp r' j',m1,fun b hb=>?_⟩;simp only[G'];rw[if_pos hb]
  ·rw[if_neg c]at hy;obtain⟨h2,k,box,e1,e2,e3,e4⟩:=hS.leaf _ _ _ hy;refine⟨h2,k,box,e1,by rw[hm];exact e2,e3,?_⟩;unfold eC at e4 ⊢;split at e4
   ·obtain⟨n1,n2,n3⟩:=e4;refine⟨n1,n2,fun b hb=>⟨owo b _ (n3 b hb).1 ?_,(n3 b hb).2⟩⟩;intro q;cases q;exact c ⟨rfl,rfl⟩
   ·obtain⟨S,n1,n2⟩:=e4;exact⟨S,n1,fun b hb=>owo b _ (n2 b hb) (by simp)⟩
   ·trivial
 ·intro r' y hy;rw[hm]at hy;exact hS.metas r' y hy
 ·intro r' b hb;obtain⟨k,hk⟩:=hS.noloc r' b hb;exact⟨k,by rw[hm];exact hk⟩
theorem ug (hz:∀ b,cx.ro b){a:Act}{w:World}{r:Nat}:∀ (m j:Nat) (σ:VS),fc cx (get σ) a w->fc cx (get (KG r j m σ)) a w
 |0,_,_,h=>h
 | m+1,j,σ,h=>by
   unfold KG;split
   ·rename_i hv e;split
    ·rename_i sz es hc;obtain⟨G,hG⟩:=h;exact ug hz m (j+1) _ (hG.freeze hz e hc)
    ·exact ug hz m (j+1) _ h
   ·exact ug hz m (j+1) _ h
theorem AE (hz:∀ b,cx.ro b){a:Act}{w:World}:∀ (rs:List Nat) (σ:VS),fc cx (get σ) a w->fc cx (get (Mh rs σ)) a w
 |[],_,h=>h
 | r::rs,σ,h=>by
   unfold Mh;split;exact AE hz rs _ (ug hz _ _ _ h);exact AE hz rs _ h
theorem Ga {fz:List (Nat×List Nat)}(hz:fz≠[]->∀ b,cx.ro b){id:Nat}{σ:VS}{a:Act}{w:World}(h:fc cx (get σ) a w):fc cx (get (PC fz id σ)) a w:=by
 unfold PC;split
 ·rename_i rs e;refine AE (hz ?_) rs σ h;intro q;subst q;cases e
 ·exact h
theorem aO.rereg {g:Gm}{G:Gh}{a:Act}{w:World}(hS:aO cx G g a w){d:Nat}{x:R}(hd:d<cx.n)(hx:cT (gl g) G w x (a.tmps.getD d undef)):
 aO cx G ((W.reg d x).app g) a w:=by
 have hl:∀ r j,(W.reg d x).app g (.leaf r j)=g (.leaf r j):=fun r j=>by simp[W.app]
 have hm:∀ r,(W.reg d x).app g (.meta_ r)=g (.meta_ r):=fun r=>by simp[W.app]
 have hgl:gl ((W.reg d x).app g)=gl g:=by funext r j;simp[gl,hl]
 refine⟨hS.defers,hS.tm,?_,?_,?_,?_,?_,hS.lt,hS.frame,hS.frow,fun r j h e=>hS.anc r j h (by rw[<-hgl];exact e),fun r x e=>by rw[hm];exact hS.aloc r x e,hS.afr,fun r1 r2 k1 k2 b o1 o2 h1 h2 h3=>hS.sep r1 r2 k1 k2 b o1 o2 h1 (by rw[<-hm];exact h2) (by rw[<-hm];exact h3),hS.newb,hS.roX⟩
 ·intro e y he;rw[hgl];simp only[W.app]at he;split at he
  ·rename_i h;cases h;cases he;exact⟨hd,x,rfl,hx⟩
  ·exact hS.reg e y he
 ·intro r k hr;rw[hm]at hr;exact hS.boxes r k hr
 ·intro r j y hy;rw[hl]at hy;obtain⟨h,k,box,e1,e2,e3,e4⟩:=hS.leaf r j y hy;exact⟨h,k,box,e1,by rw[hm];exact e2,e3,e4⟩
 ·intro r y hy;rw[hm]at hy;exact hS.metas r y hy
 ·intro r b hb;obtain⟨k,hk⟩:=hS.noloc r b hb;exact⟨k,by rw[hm];exact hk⟩
def VZ (O:DZ)(t:Nat)(σ:VS)(k:VS->Prop):Prop:=
 match get σ (.meta_ t)with
 |some _=>k σ
 | none=>match get σ (.reg t)with
   | some (.r (.one (.vn r j ver iv p lo m)))=>match get σ (.leaf r j)with
     | some (.h h)=>match h.c with
       | .own (.s sz es)=>match hN h ver iv with
         | true=>O.pr (fun _=>gQ (.s sz es) p=some (1,O.ps (.s sz es) p)/\bV (O.ps (.s sz es) p))/\
           k (.reg t (.one (.vw t 0 0 0 m)):: .root t false [⟨0,0,none,.own (.s 1 (O.sub (O.ps (.s sz es) p) lo m))⟩]:: .gap r j ⟨h.ver,h.iv+1,h.org,.own (.s sz (O.up (.s sz es) p [.g]))⟩::σ)
         |false=>k σ
       |_=>k σ
     |_=>k σ
   |_=>k σ
def Qu (O:DZ):List Nat->VS->(VS->Prop)->Prop
 |[],σ,k=>k σ
 |t::ts,σ,k=>VZ O t σ fun σ'=>Qu O ts σ' k
def Qt (O:DZ)(fz:List (Nat×List Nat))(id:Nat)(σ:VS)(k:VS->Prop):Prop:=
 match lk fz id with
 |some rs=>Qu O rs σ k
 |none=>k σ
theorem Od {a:Act}{w:World}{t:Nat}{σ:VS}{k:VS->Prop}(h:VZ ah t σ k)(hS:fc cx (get σ) a w):∃ σ',k σ'/\fc cx (get σ') a w:=by
 unfold VZ at h;split at h
 ·exact⟨σ,h,hS⟩
 rename_i hm;split at h
 case h_2=>exact⟨σ,h,hS⟩
 rename_i r j ver iv p lo m hr;split at h
 case h_2=>exact⟨σ,h,hS⟩
 rename_i h0 hh;split at h
 case h_2=>exact⟨σ,h,hS⟩
 rename_i sz es hc;split at h
 case h_2=>exact⟨σ,h,hS⟩
 rename_i hgd;obtain⟨⟨hgs,hsc⟩,hk⟩:=h;have hgs:gQ (.s sz es) p=some (1,mW (.s sz es) p):=hgs;have hsc:bV (mW (.s sz es) p):=hsc;obtain⟨G,hG⟩:=hS;obtain⟨hd,r0,e0,hx⟩:=hG.reg t _ hr;cases e0;have hx:jg (gl (get σ)) G w (.vn r j ver iv p lo m) (a.tmps.getD t undef):=hx;have q1:=au.2 hh;obtain⟨rec,o0,bb,oo,hvv,S,n1,n2,n3,n4,n5,n6,n7,n8⟩:=nested hG hx q1 hgd hc hgs;obtain⟨S2,k1,knd,k2⟩:=n6.own n7 n5 hsc (rI (rH hsc));obtain⟨G1,hS1,z⟩:=hG.shedN hh hc n1 n2 n3 n4 k2;have hml:((((mW (.s sz es) p).drop lo).take m)).length=m:=by simp only[acX,ac5];omega
 obtain⟨G2,hS2,v1,_,_,_⟩:=hS1.newRoot' (d:=t) (by simpa[W.app]using hm) false [⟨0,0,none,.own (.s 1 (((mW (.s sz es) p).drop lo).take m))⟩] w rfl rfl rfl (No _) (fun _ _ _=>rfl) (fun _=>a.tmps.getD t undef) (fun _=>S2)
  (fun i h e=>by
    cases i with
    |succ i=>simp at e
    | zero=>
      simp at e;subst e;refine⟨k1,knd,fun b hb=>?_⟩;obtain⟨u,J,z1,z2,z3⟩:=z b hb;refine⟨u,.inr ⟨r,J,z1,?_⟩⟩;intro h' l' p1 p2;rw[au]at p1;simp[W.app,z3,z2]at p1)
  (fun i h e=>by
    cases i with
    |succ i=>simp at e
    |zero=>simp at e;subst e;exact eT.none)
  (fun i i' hi hi' hne=>by simp at hi hi';omega) 0 0 (fun e=>by cases e)
 refine⟨_,hk,G2,?_⟩;refine hS2.rereg hd ?_;simp only[cT];refine⟨⟨0,0,none,.own (.s 1 (((mW (.s sz es) p).drop lo).take m))⟩,au.2 (by simp[W.app]),No _,fun _ sz' es' e=>?_⟩;cases e;rw[v1];have:=dY.full k1;rw[hml]at this;exact⟨by omega,this⟩
theorem GN {a:Act}{w:World}:∀ {ts:List Nat} {σ:VS} {k:VS->Prop},Qu ah ts σ k->fc cx (get σ) a w->∃ σ',k σ'/\fc cx (get σ') a w
 |[],σ,k,h,hS=>⟨σ,h,hS⟩
 | t::ts,σ,k,h,hS=>by
   obtain⟨σ1,h1,hS1⟩:=Od (k:=fun σ'=>Qu ah ts σ' k) h hS;exact GN h1 hS1
theorem GM {fz:List (Nat×List Nat)}{id:Nat}{a:Act}{w:World}{σ:VS}{k:VS->Prop}(h:Qt ah fz id σ k)(hS:fc cx (get σ) a w):∃ σ',k σ'/\fc cx (get σ') a w:=by
 unfold Qt at h;split at h
 ·exact GN h hS
 ·exact⟨σ,h,hS⟩
end
end Go.V
namespace Go.V
section
variable (T : BV) (O : DZ) (ct : Kw) (n : Nat) (an : List Nat) (fz : List (Nat × List Nat))
def H8 :List Oper->Option (Nat×Nat×Nat)
 | [o1,o2]=>match o1.op with
   | .next (.tmp it) false=>match o2.op with
     | .extract (.tmp d) 0=>match o1.dst,o1.guard,o2.dst,o2.guard with
       | some d1,none,some d2,none=>match ad7 d d1 with
         |true=>some (it,d1,d2)
         |false=>none
       |_,_,_,_=>none
     |_=>none
   |_=>none
 |_=>none
def OB (it d1 d2:Nat)(draw:Bool)(σ:VS)(K:VS->Prop):Prop:=
 match draw with
 |true=>False
 | false=>match get σ (.reg it)with
   | some (.r (.one (.it es vs)))=>(v9 it σ&&(ag4 d1 n&&(ag4 d2 n&&(!Nat.beq d1 it&& !Nat.beq d2 it))))=true/\
      (∀ k:Int,O.pr (fun _=>k∈pu es/\vs.length<es.length)->K (.reg d2 (.k true):: .reg d1 (.one .un):: .reg it (.one (.it es (k::vs)))::σ))/\
      (O.pr (fun _=>∀ k∈pu es,k∈vs)->K (.reg d2 (.k false):: .reg d1 (.one .un)::σ))
   |_=>False
def qi :Code->(Ex->VS->Prop)->VS->Prop
 | .skip,Q,σ=>Q .normal σ
 | .region id ops draw,Q,σ=>match H8 ops.toList with
   |some (it,d1,d2)=>OB O n it d1 d2 draw σ (fun σ'=>Q .normal σ')
   | none=>DG T O ct n ops ops.toList σ [] fun σ' acc=>match draw with
     |true=>O.pr (fun _=>aP ops acc.reverse=true)/\Qt O fz id (PC fz id σ') (Q .normal)
     |false=>Qt O fz id (PC fz id σ') (Q .normal)
 | .seq x y,Q,σ=>qi x (fun e σ'=>match e with
    | .normal=>qi y Q σ'
    | .exit i=>Q (.exit i) σ'
    | .ret=>Q .ret σ') σ
 | .cond c x y,Q,σ=>(En c .ret).wpU (get σ) [] fun _ b=>LN b (fun _=>qi x Q σ) (fun _=>qi y Q σ)
 | .block id x,Q,σ=>qi x (fun e σ'=>match e with
    | .normal=>Q .normal σ'
    | .exit i=>match ad7 i id with
      |true=>Q .normal σ'
      |false=>Q (.exit i) σ'
    | .ret=>Q .ret σ') σ
 | .loop x,Q,σ=>∃ (regs roots:List Nat) (α:Type) (ov:α->List W) (rel:α->Prop) (μ:α->Nat),(∃ s0,rel s0/\WI an σ (De σ regs roots (ov s0)))/\
    ∀ s,rel s->qi x (fun e σ'=>match e with
     | .normal=>∃ s',rel s'/\μ s'<μ s/\WI an σ' (De σ regs roots (ov s'))
     | .exit i=>Q (.exit i) σ'
     | .ret=>Q .ret σ') (De σ regs roots (ov s))
 | .exit id,Q,σ=>Q (.exit id) σ
 | .ret,Q,σ=>Q .ret σ
 | .scope x,Q,σ=>qi x Q σ
 |_,_,_=>False
def Mb {α:Type}(O:DZ)(ti:TI)(k:DV->List (Nat×Nat)->Rd α)(as:List A):Rd α:=
 kh O ti.slots as fun lts srcs=>if ti.agg then k (.agg (lts.map (·.1))) srcs else match lts with
  |[(l,_)]=>k (.one l) srcs
  |_=>.fail
def NZ {α:Type}(t:TypeId)(rv:ResultVar)(k:DV->List (Nat×Nat)->Rd α):Rd α:=
 match lk T.tyL t with
 |none=>.fail
 | some ti=>match rv with
   | .tmp x=>GC x fun r=>match r with
     | .one a=>if ti.agg then .fail else Mb O ti k [a]
     | .agg as=>if ti.agg then Mb O ti k as else .fail
     | .tup _=>.fail
   | .cell x t'=>if t'==t then GC x fun r=>match r with
     | .one (.pt r j)=>iw O r j ti.zero.length (Mb O ti k)
     |_=>.fail
     else .fail
def Bj {α:Type}:List TypeId->List ResultVar->(List DV->List (Nat×Nat)->Rd α)->Rd α
 |[],[],k=>k [] []
 |t::ts,rv::rvs,k=>NZ T O t rv fun d src=>Bj ts rvs fun ds srcs=>k (d::ds) (src++srcs)
 |_,_,_=>.fail
def DF (ts:List TypeId)(rvs:List ResultVar)(σ:VS)(res:List DV):Prop:=
 (Bj T O ts rvs fun ds srcs=>if bz srcs then .req (O.pr fun _=>ds=res) (.ret ())else .fail).wpU (get σ) [] fun _ _=>True
end
section
variable {P : Program} {T : BV} {cx : Cx} {g : Gm}
theorem H1 {α:Type}{r j:Nat}{h0:Hv}{k' k:A->Rd α}{ls:List Loc}{x:α}(hk:∀ a ls,(k' a).Runs g ls x->(k a).Runs g ls x)(h:(AZ r j h0 k').Runs g ls x):(AZ r j h0 k).Runs g ls x:=by
 unfold AZ at h ⊢;split at h
 ·split at h
  ·refine dM (fun v ls h=>?_) h;split at h
   ·split at h
    ·split at h
     ·rename_i hb;rw[if_pos hb];exact hk _ _ h
     ·rename_i hb;rw[if_neg hb];exact hk _ _ h
    ·exact hk _ _ h
   ·exact hk _ _ h
  ·exact hk _ _ h
 ·exact hk _ _ h
 ·exact hk _ _ h
theorem qa {α:Type}{r:Nat}:∀ {m j:Nat} {k' k:List A->Rd α} {ls:List Loc} {x:α},(∀ as ls,(k' as).Runs g ls x->(k as).Runs g ls x)->(fg r j m k').Runs g ls x->(fg r j m k).Runs g ls x
 |0,j,k',k,ls,x,hk,h=>hk _ _ h
 |m+1,j,k',k,ls,x,hk,h=>dM (fun v ls h=>H1 (fun a ls h=>qa (fun as ls h=>hk _ _ h) h) h) h
theorem KU (hT:bI P T){α:Type}{t:TypeId}{rv:ResultVar}{k' k:DV->List (Nat×Nat)->Rd α}{ls:List Loc}{x:α}(hk:∀ d s ls,(k' d s).Runs g ls x->(k d s).Runs g ls x)(h:(NZ T ah t rv k').Runs g ls x):(NY P t rv k).Runs g ls x:=by
 revert h
 unfold NZ NY;rcases hT.ty t with e|⟨ti,e,e2⟩
 ·simp only[e];exact fun h=>h.elim
 ·simp only[e,e2];have hf:∀ (as:List A) (ls:List Loc),(Mb ah ti k' as).Runs g ls x->(dh ti.slots as fun lts srcs=>if ti.agg then k (.agg (lts.map (·.1))) srcs else match lts with
   |[(l,_)]=>k (.one l) srcs
   |_=>.fail).Runs g ls x:=by
   intro as ls h;unfold Mb at h;rw[ki]at h;refine jd ?_ h;intro l src ls h;by_cases ha:ti.agg=true
   ·rw[if_pos ha]at h ⊢;exact hk _ _ _ h
   ·rw[if_neg ha]at h ⊢;split at h
    ·exact hk _ _ _ h
    ·exact h.elim
  intro h;cases rv with
  | tmp y=>
    refine Bh ?_ h;intro r ls h;cases r with
    | one a=>
      simp only at h ⊢;split at h
      ·exact h.elim
      ·rename_i hb;rw[if_neg hb];exact hf _ _ h
    | agg as=>
      simp only at h ⊢;split at h
      ·rename_i hb;rw[if_pos hb];exact hf _ _ h
      ·exact h.elim
    |tup rs=>exact h
  | cell y t'=>
    refine cM (fun ls h=>?_) h;refine Bh ?_ h;intro r ls h;cases r with
    | one a=>cases a with
      | pt r j=>
        simp only[mM]at h;exact qa (fun as ls h=>hf as ls h) h
      |_=>exact h
    |agg as=>exact h
    |tup rs=>exact h
theorem mO (hT:bI P T){α:Type}:∀ {ts:List TypeId} {rvs:List ResultVar} {k' k:List DV->List (Nat×Nat)->Rd α} {ls:List Loc} {x:α},(∀ d s ls,(k' d s).Runs g ls x->(k d s).Runs g ls x)->(Bj T ah ts rvs k').Runs g ls x->(Bi P ts rvs k).Runs g ls x
 |[],[],k',k,ls,x,hk,h=>hk _ _ _ h
 |[],_::_,k',k,ls,x,hk,h=>h
 |_::_,[],k',k,ls,x,hk,h=>h
 |t::ts,rv::rvs,k',k,ls,x,hk,h=>KU hT (fun d s ls h=>mO hT (fun d s ls h=>hk _ _ _ h) h) h
theorem Gy {ops:List Oper}{it d1 d2:Nat}(h:H8 ops=some (it,d1,d2)):∃ o1 o2,ops=[o1,o2]/\o1.op=.next (.tmp it) false/\o1.dst=some d1/\o1.guard=none/\o2.op=.extract (.tmp d1) 0/\o2.dst=some d2/\o2.guard=none:=by
 unfold H8 at h;split at h
 ·rename_i o1 o2;split at h
  ·rename_i it' e1;split at h
   ·rename_i d e2;split at h
    ·rename_i e3 e4 e5 e6;split at h
     ·rename_i hb;cases h;cases adh hb;exact⟨o1,o2,rfl,e1,e3,e4,e2,e5,e6⟩
     ·cases h
    ·cases h
   ·cases h
  ·cases h
 ·cases h
theorem dC {fz:List (Nat×List Nat)}(hz:fz≠[]->∀ b,cx.ro b)(hT:bI P T){ct:Kw}(hct:CN P ct)(hm:P.follows .mixedOrders=true){n:Nat}(hn:n=cx.n){an:List Nat}(ha:∀ r x,cx.aloc r=some x->r∈an):∀ (c:Code) (Q:Ex->VS->Prop) (σ:VS) (a:Act) (w:World),qi T ah ct n an fz c Q σ->fc cx (get σ) a w->
 c.wp P (fun e a' w'=>∃ ex σ',e=Ul ex/\Q ex σ'/\fc cx (get σ') a' w') a w
 | .skip,Q,σ,a,w,h,hS=>wp_skip ⟨.normal,σ,rfl,h,hS⟩
 | .region id ops draw,Q,σ,a,w,h,hS=>by
   unfold qi at h;split at h
   ·rename_i it d1 d2 hq;unfold OB at h;split at h
    ·exact h.elim
    split at h
    case h_2=>exact h.elim
    rename_i es vs hit;obtain⟨hb,hT',hF'⟩:=h;simp only[AI,ae3]at hb;obtain⟨b1,b2,b3,b4,b5⟩:=hb;obtain⟨o1,o2,e0,p1,p2,p3,p4,p5,p6⟩:=Gy hq;subst hn;refine wp_region_list ?_;rw[e0];refine H9 hS hit b1 (by simpa[ahc]using b2) (by simpa[ahc]using b3) (ae9 b4) (ae9 b5) p1 p2 p3 p4 p5 p6 ?_ ?_
    ·intro k hk hl a' w' hs;exact⟨.normal,_,rfl,hT' k ⟨hk,hl⟩,hs⟩
    ·intro hall a' w' hs;exact⟨.normal,_,rfl,hF' hall,hs⟩
   obtain⟨xs,σ',h1,h2⟩:=rS hT hct _ _ _ _ h;subst hn;cases draw with
   | false=>exact wp_region_list (h1.text hS (fun a' w' hs=>by
      obtain⟨σ2,k1,k2⟩:=GM h2 (Ga hz hs);exact⟨.normal,σ2,rfl,k1,k2⟩))
   | true=>
     obtain⟨h2,h3⟩:=h2;refine GE hm h1 ?_ (fun a' w' hs=>by
      obtain⟨σ2,k1,k2⟩:=GM h3 (Ga hz hs);exact⟨.normal,σ2,rfl,k1,k2⟩) (fun a w h=>h.drawn _) hS
     have h2:aP ops _=true:=h2
     simpa using h2
 | .seq x y,Q,σ,a,w,h,hS=>by
   refine wp_seq (aeO ?_ (dC hz hT hct hm hn ha x _ σ a w h hS));rintro e a' w' ⟨ex,σ',rfl,hq,hs⟩;cases ex with
   |normal=>exact dC hz hT hct hm hn ha y Q σ' a' w' hq hs
   |exit i=>exact⟨.exit i,σ',rfl,hq,hs⟩
   |ret=>exact⟨.ret,σ',rfl,hq,hs⟩
 | .cond c x y,Q,σ,a,w,h,hS=>by
   obtain⟨G,hG⟩:=id hS;obtain⟨ls,b,t,h1,h2,_⟩:=Rd.wpU_runs h;obtain⟨b',ls',e,h3⟩:=t7 hG h1;refine wp_cond e ?_;simp only[Rd.Runs]at h3;obtain⟨_,rfl⟩:=h3;cases b with
   |true=>exact dC hz hT hct hm hn ha x Q σ a w h2 hS
   |false=>exact dC hz hT hct hm hn ha y Q σ a w h2 hS
 | .block id x,Q,σ,a,w,h,hS=>by
   refine wp_block (aeO ?_ (dC hz hT hct hm hn ha x _ σ a w h hS));rintro e a' w' ⟨ex,σ',rfl,hq,hs⟩;cases ex with
   |normal=>exact⟨.normal,σ',rfl,hq,hs⟩
   | exit i=>
     simp only[Ul,Exit.inBlock];simp only at hq;split at hq
     ·rename_i e;rw[if_pos (adh e)];exact⟨.normal,σ',rfl,hq,hs⟩
     ·rename_i e;rw[if_neg (ae9 e)];exact⟨.exit i,σ',rfl,hq,hs⟩
   |ret=>exact⟨.ret,σ',rfl,hq,hs⟩
 | .loop x,Q,σ,a,w,h,hS=>by
   obtain⟨regs,roots,α,ov,rel,μ,⟨s0,hr0,hle0⟩,hround⟩:=h;refine wp_loop_ghost (fun s a w=>rel s/\fc cx (get (De σ regs roots (ov s))) a w) μ s0 ⟨hr0,hle0.sim ha hS⟩ ?_;rintro s a w ⟨hr,hs⟩;refine aeO ?_ (dC hz hT hct hm hn ha x _ _ a w (hround s hr) hs);rintro e a' w' ⟨ex,σ',rfl,hq,hs'⟩;cases ex with
   | normal=>
     obtain⟨s',k1,k2,k3⟩:=hq;exact⟨s',⟨k1,k3.sim ha hs'⟩,k2⟩
   |exit i=>exact⟨.exit i,σ',rfl,hq,hs'⟩
   |ret=>exact⟨.ret,σ',rfl,hq,hs'⟩
 | .exit id,Q,σ,a,w,h,hS=>wp_exit ⟨.exit id,σ,rfl,h,hS⟩
 | .ret,Q,σ,a,w,h,hS=>wp_ret ⟨.ret,σ,rfl,h,hS⟩
 | .scope x,Q,σ,a,w,h,hS=>by
   refine wp_scope_straight (aeO ?_ (dC hz hT hct hm hn ha x Q σ a w h hS));rintro e a' w' ⟨ex,σ',rfl,hq,hs⟩;cases ex with
   |normal=>exact⟨.normal,σ',rfl,hq,hs⟩
   |exit i=>exact⟨.exit i,σ',rfl,hq,hs⟩
   |ret=>exact⟨.ret,σ',rfl,hq,hs⟩
 | .rangeFunc _ _ _ _,Q,σ,a,w,h,hS=>h.elim
 | .label _,Q,σ,a,w,h,hS=>h.elim
 | .goto _,Q,σ,a,w,h,hS=>h.elim
 | .refuse _,Q,σ,a,w,h,hS=>h.elim
def Mc (T:BV)(O:DZ)(ts:List TypeId)(rvs:List ResultVar)(res:List DV):Ex->VS->Prop
 | .normal,σ=>DF T O ts rvs σ res
 | .ret,σ=>DF T O ts rvs σ res
 | .exit _,_=>False
theorem ab {α:Type}{rel:α->Prop}{μ:α->Nat}{m:Nat}{le:α->Prop}(s:α)(h3:le s)(h1:rel s)(h2:μ s<m):∃ s,rel s/\μ s<m/\le s:=⟨s,h1,h2,h3⟩
end
end Go.V
namespace Go.V
def oQ :L->L->Bool
 | .v (.int k _),.v (.int k' _)=>k==k'
 | .v (.bool _),.v (.bool _)=>true
 | .v (.string _),.v (.string _)=>true
 | .s sz _,.s sz' _=>sz==sz'
 |_,_=>false
def j8 :ay->ay->Bool
 |[],[]=>true
 |z::zs,x::xs=>oQ z x&&j8 zs xs
 |_,_=>false
def Wf (z:ay)(es:aa):Prop:=∀ e∈es,j8 z e=true
theorem wH :∀ {z e:ay},j8 z e=true->e.length=z.length
 |[],[],_=>rfl
 |[],_::_,h=>by cases h
 |_::_,[],h=>by cases h
 | z::zs,x::xs,h=>by
   simp only[j8,AI]at h;simp[wH h.2]
theorem C5 :∀ (o:Nat) {z e:ay},j8 z e=true->j8 (z.drop o) (e.drop o)=true
 |0,z,e,h=>h
 |o+1,[],[],h=>by simp[j8]
 |o+1,[],_::_,h=>by cases h
 |o+1,_::_,[],h=>by cases h
 | o+1,z::zs,x::xs,h=>by
   simp only[j8,AI]at h;exact C5 o h.2
theorem C6 :∀ (m:Nat) {z e:ay},j8 z e=true->j8 (z.take m) (e.take m)=true
 |0,z,e,h=>by simp[j8]
 |m+1,[],[],h=>by simp[j8]
 |m+1,[],_::_,h=>by cases h
 |m+1,_::_,[],h=>by cases h
 | m+1,z::zs,x::xs,h=>by
   simp only[j8,AI]at h;simp only[List.take_succ_cons,j8,AI];exact⟨h.1,C6 m h.2⟩
theorem Wf.at {z:ay}{es:aa}(h:Wf z es){n:Nat}(hn:n<es.length):j8 z (es.getD n [])=true:=by
 rw[BY,IT hn];exact h _ (List.getElem_mem hn)
theorem Wf.nil {z:ay}:Wf z []:=fun _ h=>by cases h
theorem Wf.cons {z e:ay}{es:aa}(h:j8 z e=true)(hs:Wf z es):Wf z (e::es):=by
 intro x hx;rcases acZ.1 hx with rfl|hx;exact h;exact hs x hx
theorem Wf.append {z:ay}{es fs:aa}(h:Wf z es)(hs:Wf z fs):Wf z (es++fs):=by
 intro x hx;rcases If.1 hx with hx|hx;exact h x hx;exact hs x hx
theorem Wf.take {z:ay}{es:aa}(h:Wf z es)(n:Nat):Wf z (es.take n):=fun x hx=>h x (List.mem_of_mem_take hx)
theorem Wf.drop {z:ay}{es:aa}(h:Wf z es)(n:Nat):Wf z (es.drop n):=fun x hx=>h x (List.mem_of_mem_drop hx)
theorem Az {es:aa}{i:Int}{t:ay}:∀ {z:ay} {j:Nat} {rest:ay},j8 z rest=true->(es.getD i.toNat []).drop j=rest++t->mZ ah es i j z=rest
 |[],j,[],_,_=>rfl
 |[],_,_::_,h,_=>by cases h
 |_::_,_,[],h,_=>by cases h
 | z::zs,j,x::xs,h,e=>by
   simp only[j8,AI]at h;have hx:(es.getD i.toNat []).getD j .g=x:=by
    have:(es.getD i.toNat [])[j]?=some x:=by
     have:=congrArg (fun l:ay=>l[0]?) e
     simpa[ac6]using this
    rw[BY,this];rfl
   have hr:(es.getD i.toNat []).drop (j+1)=xs++t:=by
    rw[<-ad3,e];rfl
   have ih:=Az h.2 hr;cases z with
   | v z=>cases z with
     | int k n=>cases x with
       | v x=>cases x with
         | int k' n'=>
           have:k=k':=by simpa[oQ]using h.1
           subst this;simp only[mZ,ih]
           congr 3
           exact(show ag es i j=_ by simp only[ag,hx,PY])
         |_=>simp[oQ]at h
       |_=>simp[oQ]at h
     | bool b=>cases x with
       | v x=>cases x with
         | bool b'=>
           simp only[mZ,ih]
           congr 3
           exact(show uX es i j=_ by simp only[uX,hx,lfB])
         |_=>simp[oQ]at h
       |_=>simp[oQ]at h
     | string b=>cases x with
       | v x=>cases x with
         | string b'=>
           simp only[mZ,ih]
           congr 3
           exact(show RR es i j=_ by simp only[RR,hx,lfT])
         |_=>simp[oQ]at h
       |_=>simp[oQ]at h
     |_=>simp[oQ]at h
   | s sz es0=>cases x with
     | s sz' es'=>
       have:sz=sz':=by simpa[oQ]using h.1
       subst this;simp only[mZ,ih]
       congr 2
       exact(show ap es i j=_ by simp only[ap,hx,Lb])
     |_=>simp[oQ]at h
   |g=>simp[oQ]at h
   |m _ _=>simp[oQ]at h
theorem oG {z:ay}{es:aa}{i:Int}(hr:Wf z es)(h0:0<=i)(h1:i<es.length):0<=i/\i<es.length/\es.getD i.toNat []=mZ ah es i 0 z:=
 ⟨h0,h1,(Az (t:=[]) (hr.at (by omega)) (by simp)).symm⟩
theorem oS {sz:Nat}{es:aa}{n j:Nat}:bX (.s sz es) [(n,j)]=(es[n]?).map (·,j):=rfl
theorem Ii {sz:Nat}{es:aa}{n j:Nat}:SC (.s sz es) [(n,j)]=ag es n j:=by
 simp only[SC,Wy,Wz,ag,uX,RR,KH,oS,ac4,BY];cases es[n]? with
 |none=>rfl
 | some e=>
   simp only[adR,adw];cases e[j]? with
   |none=>rfl
   | some x=>cases x with
     |v x=>cases x<;>rfl
     |_=>rfl
theorem Vx {sz:Nat}{es:aa}{n j:Nat}:Wy (.s sz es) [(n,j)]=uX es n j:=by
 simp only[SC,Wy,Wz,ag,uX,RR,KH,oS,ac4,BY];cases es[n]? with
 |none=>rfl
 | some e=>
   simp only[adR,adw];cases e[j]? with
   |none=>rfl
   | some x=>cases x with
     |v x=>cases x<;>rfl
     |_=>rfl
theorem VC {sz:Nat}{es:aa}{n j:Nat}:Wz (.s sz es) [(n,j)]=RR es n j:=by
 simp only[SC,Wy,Wz,ag,uX,RR,KH,oS,ac4,BY];cases es[n]? with
 |none=>rfl
 | some e=>
   simp only[adR,adw];cases e[j]? with
   |none=>rfl
   | some x=>cases x with
     |v x=>cases x<;>rfl
     |_=>rfl
theorem VB {sz:Nat}{es:aa}{n j:Nat}:mW (.s sz es) [(n,j)]=ap es n j:=by
 simp only[mW,ap,gQ,oS,ac4,BY];cases es[n]? with
 |none=>rfl
 | some e=>
   simp only[adR,adw];cases e[j]? with
   |none=>rfl
   |some x=>cases x<;>rfl
theorem QA :ah.pi=SC:=rfl
theorem Qz :ah.pb=Wy:=rfl
theorem QC :ah.pt=Wz:=rfl
theorem QB :ah.ps=mW:=rfl
theorem Qw :ah.gi=ag:=rfl
theorem Qv :ah.gb=uX:=rfl
theorem Qy :ah.gt=RR:=rfl
theorem Qx :ah.gs=ap:=rfl
theorem F3 {sz:Nat}{es:aa}{n o:Nat}:∀ {z:ay} {j:Nat},ou ah (.s sz es) [(n,o)] j z=mZ ah es n (o+j) z
 |[],j=>rfl
 | z::zs,j=>by
   have ih:ou ah (.s sz es) [(n,o)] (j+1) zs=mZ ah es n (o+j+1) zs:=F3;cases z with
   |v x=>cases x<;>simp only[ou,mZ,yW,QA,Qz,QC,Qw,Qv,Qy,Ii,Vx,VC,ih]
   |s a b=>simp only[ou,mZ,yW,QB,Qx,VB,ih]
   |g=>simp only[ou,mZ,ih]
   |m _ _=>simp only[ou,mZ,ih]
theorem kg {z z0:ay}{sz:Nat}{es:aa}{n o:Nat}(hr:Wf z0 es)(hn:n<es.length)(hz:(z0.drop o).take z.length=z)(ho:o+z.length<=z0.length):
 ∃ rec o',bX (.s sz es) [(n,o)]=some (rec,o')/\o'+z.length<=rec.length/\(rec.drop o').take z.length=ou ah (.s sz es) [(n,o)] 0 z:=by
 have hf:=hr.at hn;have e1:es[n]?=some (es.getD n []):=by rw[BY,IT hn];rfl
 refine⟨es.getD n [],o,by rw[oS,e1];rfl,?_,?_⟩
 ·rw[wH hf];exact ho
 ·have hf2:j8 z (((es.getD n []).drop o).take z.length)=true:=by
   have:=C6 z.length (C5 o hf);rw[hz]at this;exact this
  rw[F3]
  symm
  exact Az (t:=((es.getD n []).drop o).drop z.length) hf2 (by rw[ac0,ac4];exact(adi _ _).symm)
end Go.V
namespace Go.V
inductive Ty where
 |int (k:IntKind)
 |bool
 |str
 |sl (fs:List Ty)
mutual
def dr :Ty->L->Prop
 | .int k,.v (.int k' n)=>k'=k/\k.has n
 | .bool,.v (.bool _)=>True
 | .str,.v (.string s)=>s.size<=maxLen
 | .sl fs,.s sz es=>sz=fs.length/\es.length<=maxLen/\∀ e∈es,cG fs e
 |_,_=>False
def cG :List Ty->ay->Prop
 |[],[]=>True
 |t::ts,l::ls=>dr t l/\cG ts ls
 |_,_=>False
end
def shape (P:Program):Nat->TypeId->Option (List Ty)
 |0,_=>none
 | k+1,t=>
   let r:Option (List Ty):=match P.underlying t with
    |some (.int kd)=>some [.int kd]
    |some .bool=>some [.bool]
    |some .string=>some [.str]
    | some (.slice e)=>match shape P k e with
      |some (f::fs)=>if P.cellsOf e=(f::fs).length then some [.sl (f::fs)]else none
      |_=>none
    | some (.struct fs)=>(fs.toList.foldl (fun acc fd=>match acc,shape P k fd.type with
       |some acc,some ts=>if fd.offset=acc.length/\P.cellsOf fd.type=ts.length then some (acc++ts)else none
       |_,_=>none) (some []))
    |_=>none
   match r with
   |some ts=>if P.cellsOf t=ts.length then some ts else none
   |none=>none
theorem tZ :∀ {ts us:List Ty} {r s:ay},cG ts r->cG us s->cG (ts++us) (r++s)
 |[],us,[],s,_,h2=>h2
 |[],_,_::_,_,h,_=>by simp[cG]at h
 |_::_,_,[],_,h,_=>by simp[cG]at h
 | t::ts,us,l::ls,s,h,h2=>by
   simp only[cG,List.cons_append]at h ⊢;exact⟨h.1,tZ h.2 h2⟩
section
variable {P : Program} {w : World}
theorem Kd {sz:Nat}{c:ay->Prop}:∀ (len:Nat) (l:List Value),l.length=len*sz->(∀ i,i<len->∃ rec S,am w rec ((l.drop (i*sz)).take sz) S/\c rec)->
 ∃ es S,es.length=len/\bH w sz es l S/\∀ e∈es,c e
 |0,l,hl,_=>⟨[],[],rfl,by simp only[bH];exact⟨adM (by simpa using hl),trivial⟩,fun e h=>by cases h⟩
 | len+1,l,hl,h=>by
   obtain⟨rec,S,h1,h2⟩:=h 0 (by omega);have hsz:sz<=l.length:=by rw[hl,adc];omega
   obtain⟨es,T,k1,k2,k3⟩:=Kd (sz:=sz) (c:=c) len (l.drop sz) (by rw[ac5,hl,adc];omega) (fun i hi=>by
    obtain⟨rec,S,h1,h2⟩:=h (i+1) (by omega);refine⟨rec,S,?_,h2⟩;rw[ad3];rw[show sz+i*sz=(i+1)*sz from by rw[adc];omega];exact h1)
   refine⟨rec::es,S++T,by simp[k1],?_,?_⟩
   ·simp only[bH];refine⟨l.take sz,l.drop sz,S,T,(adi _ _).symm,by simp;omega,by simpa using h1,k2,rfl⟩
   ·intro e he;rcases acZ.1 he with rfl|he;exact h2;exact k3 e he
theorem Ai {a:Addr}{n:Nat}{cs:List Value}(h:w.cells? 0 a n=some cs):cs.length=n/\∀ k,k<n->w.cell? (a.add k)=cs[k]?:=by
 unfold World.cells? at h;rw[if_pos (OF _)]at h;have hl:=mapM_some_length h;refine⟨by simpa using hl,fun k hk=>mapM_some_get h k k (by simp[hk])⟩
theorem add_add' (a:Addr)(ha:a.spot=none)(i k:Nat):(a.add i).add k=⟨a.block,a.off+i+k,none⟩:=by
 obtain⟨b,o,s⟩:=a;simp only at ha;subst ha;unfold Addr.add;split<;>split<;>simp_all<;>omega
theorem sL {α:Type}{f:Option (List Ty)->α->Option (List Ty)}(hf:∀ x,f none x=none):∀ (l:List α),l.foldl f none=none
 |[]=>rfl
 |x::l=>by rw[adk,hf];exact sL hf l
theorem vW {H:Type}{enc:TypeId×Value->H}:∀ (k:Nat) (t:TypeId) (ts:List Ty),shape P k t=some ts->∀ (fuel:Nat) (cs:List Value) (x:DataW H×List MemPlace),ae7 enc P w 0 (fun _=>true) true fuel t cs=some x->
 ∃ rec S,am w rec cs S/\cG ts rec
 |0,t,ts,hs,_,_,_,_=>by simp[shape]at hs
 |k+1,t,ts,hs,0,_,_,h=>by simp[ae7]at h
 | k+1,t,ts,hs,fuel+1,cs,x,h=>by
   simp only[shape]at hs;have hcell:P.cellsOf t=ts.length:=by
    split at hs
    ·rename_i r _;split at hs
     ·rename_i hc;cases hs;exact hc
     ·cases hs
    ·cases hs
   unfold ae7 at h;cases hu:P.underlying t with
   |none=>simp[hu]at hs
   | some d=>
     simp only[hu]at hs h;cases d with
     | int kd=>
       have:ts=[.int kd]:=by
        simp only at hs;split at hs
        ·cases hs;rfl
        ·cases hs
       subst this
       match cs,h with
       | [.int k' n],h=>
         simp only at h;split at h
         ·rename_i hc;obtain⟨rfl,hwf⟩:=hc;simp only[Lit.wf,AI,decide_eq_true_eq]at hwf;exact⟨[.v (.int k' n)],[],by simp[am,bO,scal],by simp only[cG,dr];exact⟨⟨trivial,hwf⟩,trivial⟩⟩
         ·cases h
     | bool=>
       have:ts=[.bool]:=by
        simp only at hs;split at hs
        ·cases hs;rfl
        ·cases hs
       subst this
       match cs,h with
       |[.bool b],h=>exact⟨[.v (.bool b)],[],by simp[am,bO,scal],by simp[cG,dr]⟩
     | string=>
       have:ts=[.str]:=by
        simp only at hs;split at hs
        ·cases hs;rfl
        ·cases hs
       subst this
       match cs,h with
       | [.string b],h=>
         simp only at h;split at h
         ·rename_i hc;exact⟨[.v (.string b)],[],by simp[am,bO,scal],by simp only[cG,dr];exact⟨hc,trivial⟩⟩
         ·cases h
     | slice e=>
       simp only at hs;cases he:shape P k e with
       |none=>simp[he]at hs
       | some fs=>
         cases fs with
         |nil=>simp[he]at hs
         | cons f fs=>
           simp only[he]at hs;split at hs
           ·rename_i r hr;split at hr
            ·rename_i hce;cases hr;split at hs
             ·cases hs
              match cs,h with
              | [.slice none 0 0],h=>
                refine⟨[.s (f::fs).length []],[],?_,?_⟩
                ·simp only[am,bO];exact⟨_,[],[],[],rfl,⟨none,0,0,rfl,rfl,No _,OF _,.inl ⟨rfl,rfl⟩⟩,⟨rfl,rfl⟩,rfl⟩
                ·simp only[cG,dr];exact⟨⟨trivial,OF _,fun e h=>by cases h⟩,trivial⟩
              | [.slice (some a) len cap],h=>
                simp only at h;split at h
                ·rename_i hb;obtain⟨_,hlc,hcm⟩:=hb;simp only[if_true,ac1,aeD]at h;obtain⟨elems,hel,rest,hrest,_⟩:=h;have hsz:P.cellsOf e=(f::fs).length:=hce;have hszp:0<P.cellsOf e:=by rw[hsz];simp
                 have hat:∀ i,i<cap->∃ ci y,w.cells? 0 (a.add (i*P.cellsOf e)) (P.cellsOf e)=some ci/\ae7 enc P w 0 (fun _=>true) true fuel e ci=some y:=by
                  intro i hi;rcases adZ i len with c|c
                  ·have:=mapM_some_get hel i i (afp c);have hl:=mapM_some_length hel;simp only[agu]at hl;rw[IT (by omega)]at this;simp only[aeD]at this;obtain⟨ci,h1,h2⟩:=this;exact⟨ci,_,h1,h2⟩
                  ·have:=mapM_some_get hrest (i-len) (i-len) (afp (by omega));have hl:=mapM_some_length hrest;simp only[agu]at hl;rw[IT (by omega)]at this;simp only[aeD]at this;obtain⟨ci,h1,h2⟩:=this;rw[show len+(i-len)=i from by omega]at h1;exact⟨ci,_,h1,h2⟩
                 by_cases hc0:cap=0
                 ·subst hc0;have:len=0:=by omega
                  subst this;refine⟨[.s (f::fs).length []],[],?_,?_⟩
                  ·simp only[am,bO];exact⟨_,[],[],[],rfl,⟨some a,0,0,rfl,rfl,No _,OF _,.inl ⟨rfl,rfl⟩⟩,⟨rfl,rfl⟩,rfl⟩
                  ·simp only[cG,dr];exact⟨⟨trivial,OF _,fun e h=>by cases h⟩,trivial⟩
                 ·obtain⟨c0,y0,z1,z2⟩:=hat 0 (by omega);have z3:=(Ai z1).2 0 hszp;have hz4:∃ v,w.cell? a=some v:=by
                   rw[Nat.zero_mul]at z3;have:(a.add 0).add 0=a:=rfl;rw[this]at z3;rw[z3];have:=(Ai z1).1;exact⟨_,IT (by omega)⟩
                  obtain⟨v0,hv0⟩:=hz4;have hblk:∃ cur ty fz,w.heap[a.block]?=some (.cells cur ty fz)/\a.spot=none:=by
                   unfold afE at hv0;split at hv0
                   ·rename_i cur ty fz hh;refine⟨cur,ty,fz,hh,?_⟩;cases hsp:a.spot with
                    |none=>rfl
                    |some s=>simp[hsp]at hv0
                   ·cases hv0
                  obtain⟨cur,ty,fz,hh,hsp⟩:=hblk;have hcellat:∀ j,w.cell? ⟨a.block,j,none⟩=cur[j]?:=by
                   intro j;unfold afE;simp[hh]
                  have hel2:∀ i,i<cap->∃ ci y,ci.length=P.cellsOf e/\(∀ kk,kk<P.cellsOf e->cur[a.off+i*P.cellsOf e+kk]?=ci[kk]?)/\ae7 enc P w 0 (fun _=>true) true fuel e ci=some y:=by
                   intro i hi;obtain⟨ci,y,h1,h2⟩:=hat i hi;obtain⟨h3,h4⟩:=Ai h1;refine⟨ci,y,h3,fun kk hkk=>?_,h2⟩;rw[<-h4 kk hkk,add_add' a hsp,hcellat]
                  have hfit:a.off+cap*P.cellsOf e<=cur.size:=by
                   obtain⟨ci,y,h1,h2,_⟩:=hel2 (cap-1) (by omega);have:=h2 (P.cellsOf e-1) (by omega);rw[IT (by omega)]at this;have hlt:=(aaB.1 this).1;have:cap*P.cellsOf e=(cap-1)*P.cellsOf e+P.cellsOf e:=by
                    rw[<-ag5];congr 1;omega
                   omega
                  have hle:len*P.cellsOf e<=cap*P.cellsOf e:=adA _ hlc;obtain⟨es,S,k1,k2,k3⟩:=Kd (w:=w) (sz:=P.cellsOf e) (c:=cG (f::fs)) len ((cur.toList.drop a.off).take (len*P.cellsOf e)) (by simp only[acX,ac5,Array.length_toList];omega) (fun i hi=>by
                   obtain⟨ci,y,h1,h2,h3⟩:=hel2 i (by omega);obtain⟨rec,S,r1,r2⟩:=vW k e (f::fs) he fuel ci y h3;refine⟨rec,S,?_,r2⟩;have:(((cur.toList.drop a.off).take (len*P.cellsOf e)).drop (i*P.cellsOf e)).take (P.cellsOf e)=ci:=by
                    apply List.ext_getElem?;intro kk;have hii:(i+1)*P.cellsOf e<=len*P.cellsOf e:=adA _ hi;rw[ag5]at hii;simp only[List.getElem?_take,ac6];by_cases ck:kk<P.cellsOf e
                    ·rw[if_pos ck,if_pos (by omega), <-h2 kk ck,adn];congr 1;omega
                    ·rw[if_neg ck,adu (by omega)]
                   rw[this];exact r1)
                  refine⟨[.s (f::fs).length es],a.block::S,?_,?_⟩
                  ·simp only[am,bO];refine⟨_,[],a.block::S,[],rfl,⟨some a,len,cap,rfl,k1.symm,hlc,hcm,.inr ⟨a.block,a.off,cur,ty,fz,S,?_,hh,by rw[<-hsz];exact hfit,by rw[<-hsz];exact k2,rfl⟩⟩,⟨rfl,rfl⟩,by simp⟩;obtain⟨b,o,s⟩:=a;simp only at hsp;subst hsp;rfl
                  ·simp only[cG,dr];exact⟨⟨trivial,by omega,k3⟩,trivial⟩
                ·cases h
             ·cases hs
            ·cases hr
           ·cases hs
     | struct fs=>
       simp only at hs;generalize hfold:(fs.toList.foldl (fun acc fd=>match acc,shape P k fd.type with
        |some acc,some ts=>if fd.offset=acc.length/\P.cellsOf fd.type=ts.length then some (acc++ts)else none
        |_,_=>none) (some []))=r at hs
       cases r with
       |none=>cases hs
       | some ts0=>
         simp only at hs;by_cases hc0:P.cellsOf t=ts0.length
         case neg=>rw[if_neg hc0]at hs;cases hs
         rw[if_pos hc0]at hs;cases hs;simp only at h;split at h
         ·rename_i hcl;simp only[ac1]at h;obtain⟨xs,hxs,_⟩:=h;have key:∀ (l:List Field) (acc:List Ty) (xs:List (DataW H×List MemPlace)),l.foldl (fun acc fd=>match acc,shape P k fd.type with
           |some acc,some ts=>if fd.offset=acc.length/\P.cellsOf fd.type=ts.length then some (acc++ts)else none
           |_,_=>none) (some acc)=some ts->l.mapM (fun f=>ae7 enc P w 0 (fun _=>true) true fuel f.type ((cs.drop f.offset).take (P.cellsOf f.type)))=some xs->
           ∃ tl,ts=acc++tl/\∃ rec S,am w rec ((cs.drop acc.length).take tl.length) S/\cG tl rec:=by
           intro l
           induction l with
           |nil=>intro acc xs h _;simp only[List.foldl_nil,adB]at h;exact⟨[],by simp[h],[],[],by simp[am],by simp[cG]⟩
           | cons fd l ih=>
             intro acc xs h hm;rw[adk]at h;cases hsf:shape P k fd.type with
             |none=>simp only[hsf]at h;rw[sL (fun _=>rfl)]at h;cases h
             | some us=>
               simp only[hsf]at h;by_cases hc:fd.offset=acc.length/\P.cellsOf fd.type=us.length
               ·rw[if_pos hc]at h;simp only[List.mapM_cons,Option.bind_eq_bind,aeD]at hm;obtain⟨y,hy,ys,hys,_⟩:=hm;obtain⟨tl,e1,rec,S,r1,r2⟩:=ih (acc++us) ys h hys;obtain⟨rec0,S0,q1,q2⟩:=vW k fd.type us hsf fuel _ y hy;refine⟨us++tl,by rw[e1,List.append_assoc],rec0++rec,S0++S,?_,tZ q2 r2⟩;have e2:(cs.drop acc.length).take (us++tl).length=(cs.drop fd.offset).take (P.cellsOf fd.type)++(cs.drop (acc++us).length).take tl.length:=by
                 rw[hc.1,hc.2,AT,AT,List.take_add,ad3]
                rw[e2];exact q1.append r1
               ·rw[if_neg hc]at h;rw[sL (fun _=>rfl)]at h;cases h
          obtain⟨tl,e1,rec,S,r1,r2⟩:=key fs.toList [] xs hfold hxs;simp only[ads]at e1;subst e1;refine⟨rec,S,?_,r2⟩;rw[hcell]at hcl
          simpa[<-hcl]using r1
         ·cases h
     |_=>simp at hs
end
end Go.V
namespace Go.V
open Go.ChangeShapes Go.WideShapes Go.ChangeAt Go.RowKit
def IX :Bool->ay->DV
 |true,rec=>.agg rec
 |false,[l]=>.one l
 |false,rec=>.agg rec
def yY :List (Bool×List Ty)->aa->List DV
 |(b,_)::sh,r::rs=>IX b r::yY sh rs
 |_,_=>[]
def As :List (Bool×List Ty)->aa->Prop
 |[],[]=>True
 |(_,ts)::sh,r::rs=>cG ts r/\As sh rs
 |_,_=>False
def Gp (P:Program)(t:TypeId):Bool:=match P.underlying t with
 |some (.struct _)=>true
 |_=>false
def E8 (P:Program)(t:TypeId):Option (Bool×List Ty):=(shape P 12 t).map (Gp P t, ·)
section
variable {P : Program} {w : World} {H : Type} {enc : TypeId × Value -> H}
theorem NU {t:TypeId}{b:Bool}{ts:List Ty}(hs:E8 P t=some (b,ts)){base:Nat}{v:Value}(hok:aex P w .any base t v){d:DataW H}{ps:List MemPlace} 
 (h:DataW.Trod enc P w 0 (fun _=>true) true t v d ps):∃ rec S,cG ts rec/\lK w (IX b rec) v S:=by
 unfold E8 at hs;cases hsh:shape P 12 t with
 |none=>simp[hsh]at hs
 | some ts'=>
   simp only[hsh,adR,adB,afK]at hs;obtain⟨hb,rfl⟩:=hs;obtain⟨fuel,h⟩:=h;obtain⟨rec,S,h1,h2⟩:=vW _ _ _ hsh _ _ _ h;refine⟨rec,S,h2,?_⟩;unfold Gp at hb;cases hu:P.underlying t with
   |none=>simp[shape,hu]at hsh
   | some ud=>
     have hcell:∀ (hv:v.cells= #[v]) (hbf:b=false),∃ l,rec=[l]/\lK w (IX b rec) v S:=by
      intro hv hbf;rw[hv]at h1;have hl:=h1.length;simp only[ac7,ade]at hl;obtain⟨l,rfl⟩:=List.length_eq_one_iff.1 hl.symm;refine⟨l,rfl,?_⟩;simp only[am]at h1;obtain⟨v',vs',S1,S2,e,q1,⟨rfl,rfl⟩,rfl⟩:=h1;simp at e;obtain⟨rfl,_⟩:=e;rw[hbf]
      simpa[IX,lK]using q1
     cases ud with
     | struct fs=>
       simp only[hu]at hb;subst hb;simp only[aex,hu]at hok;obtain⟨cs,rfl,_,_⟩:=hok;exact⟨cs.toList,by simp,h1⟩
     | int k=>
       simp only[aex,hu,afF,agv]at hok;split at hok<;>first|exact hok.elim|skip
       all_goals first|(obtain⟨l,rfl,h3⟩:=hcell rfl (by simpa[hu]using hb.symm);exact h3)|(rename_i hx _;cases hx)
     | bool=>
       simp only[aex,hu,afF,agv]at hok;split at hok<;>first|exact hok.elim|skip
       all_goals first|(obtain⟨l,rfl,h3⟩:=hcell rfl (by simpa[hu]using hb.symm);exact h3)|(rename_i hx _;cases hx)
     | string=>
       simp only[aex,hu,afF,agv]at hok;split at hok<;>first|exact hok.elim|skip
       all_goals first|(obtain⟨l,rfl,h3⟩:=hcell rfl (by simpa[hu]using hb.symm);exact h3)|(rename_i hx _;cases hx)
     | slice e=>
       simp only[aex,hu,afF,agv]at hok;split at hok<;>first|exact hok.elim|skip
       all_goals first|(obtain⟨l,rfl,h3⟩:=hcell rfl (by simpa[hu]using hb.symm);exact h3)|(rename_i hx _;cases hx)
     |_=>simp[shape,hu]at hsh
theorem lK.arg {d:DV}{v:Value}{S:List Nat}(h:lK w d v S):pM w d v S:=by
 cases d with
 |one l=>exact h
 |agg l=>exact h
 |_=>exact h.elim
theorem Dr :∀ (ts:List TypeId) (sh:List (Bool×List Ty)) (vs:List Value) (ds:List (DataW H)) (ps:List MemPlace) (base:Nat),(ts.map (E8 P))=sh.map some->
 (∀ (j:Nat) t v,ts[j]?=some t->vs[j]?=some v->aex P w .any base t v)->afn enc P w 0 (fun _=>true) true ts vs ds ps->
 ∃ recs,As sh recs/\gq (fun _=>True) w (yY sh recs) vs
 | [],[],vs,ds,ps,base,_,_,h=>by
   obtain⟨rfl,rfl,rfl⟩:=trodAll_nil h;exact⟨[],trivial,rfl⟩
 |[],_::_,_,_,_,_,h,_,_=>by simp at h
 |_::_,[],_,_,_,_,h,_,_=>by simp at h
 | t::ts,(b,us)::sh,vs,ds,ps,base,hsh,hok,h=>by
   simp only[adH,adW]at hsh;obtain⟨v,vs',d,ds',p,q,rfl,rfl,rfl,h1,h2⟩:=trodAll_cons h;obtain⟨rec,S,r1,r2⟩:=NU hsh.1 (hok 0 t v rfl rfl) h1;obtain⟨recs,k1,k2⟩:=Dr ts sh vs' ds' q base hsh.2 (fun j t' v' e1 e2=>hok (j+1) t' v' (by simpa using e1) (by simpa using e2)) h2;exact⟨rec::recs,⟨r1,k1⟩,v,vs',S,rfl,r2.arg,fun _ _=>trivial,k2⟩
theorem Same.below {w w':World}(h:Same (fun _=>True) w w'):Below w.heap.size w w':=⟨h.os,h.tape,h.output,h.size,fun k hk=>h.block k hk trivial⟩
theorem Same.keptBut {w w':World}(h:Same (fun _=>True) w w')(may:MemPlace->Prop):w.keptBut w' may:=by
 refine⟨h.os,h.output,fun i hi=>?_⟩;rw[h.block i hi trivial];cases w.heap[i]? with
 |none=>rfl
 | some o=>cases o with
   |cells c t fr=>exact⟨rfl,rfl,rfl,fun _ _=>rfl⟩
   |map es clock=>exact .inr ⟨rfl,rfl⟩
   |_=>rfl
theorem sq {w':World}(hl:laidOutB P=true)(hb:Below w.heap.size w w'):∀ (ts:List TypeId) (vs:List Value) (ds:List (DataW H)) (ps:List MemPlace),(ts.all fun t=>P.readableRec t&&decide (t<P.types.size))=true->
 afn enc P w 0 (fun _=>true) true ts vs ds ps->(∀ x∈ps,x.block<w.heap.size)->afn enc P w' 0 (fun b=>decide (b<w.heap.size)) true ts vs ds ps
 | [],vs,ds,ps,_,h,_=>by
   obtain⟨rfl,rfl,rfl⟩:=trodAll_nil h;exact trodAll_mk0
 | t::ts,vs,ds,ps,hr,h,hlt=>by
   obtain⟨v,vs',d,ds',p,q,rfl,rfl,rfl,h1,h2⟩:=trodAll_cons h;simp only[List.all_cons,AI,decide_eq_true_eq]at hr;exact⟨p,q,Below.trod hl hr.1.1 hr.1.2 h1 hb (fun x hx=>hlt x (by simp[hx])),sq hl hb ts vs' ds' q (by simpa using hr.2) h2 (fun x hx=>hlt x (by simp[hx])),rfl⟩
theorem Dg {f:FuncId}{fn:Func}{s:ChangeSpec}{sh:List (Bool×List Ty)}{tb:TypeId}(hvars:s.vars=[])(hspec:∀ ds:List (DataW H),ds.length=fn.params.toList.length->s.fn H (ds++[])=⟨[.lit (.bool true)],ds,[]⟩) 
 (hrt:fn.resultTypes= #[tb]) (htb:P.underlying tb=some .bool) (hl:laidOutB P=true) (hread:(fn.params.toList.all fun t=>P.readableRec t&&decide (t<P.types.size))=true)
 (hsh:fn.params.toList.map (E8 P)=sh.map some) (hctr:∀ recs,As sh recs->Ku P f (yY sh recs) [.k true])
 {base:Nat} {args:Array Value} {ds gs:List (DataW H)} {before:List MemPlace} (hval:∀ (j:Nat) t v,fn.params[j]?=some t->args[j]?=some v->aex P w .any base t v)
 (hW:DataW.Whole enc P fn.params.toList s.vars false w args.toList ds gs before):
 Calls P f args w fun e w'=>∃ v,e=.returned v/\s.post enc P fn false true false false w args v w':=by
 have hW':=hW;obtain⟨p,q,hA,hV,rfl,hfz,hnd⟩:=hW;rw[hvars]at hV;obtain⟨rfl,rfl⟩:=trodVars_none hV;obtain⟨recs,h1,h2⟩:=Dr fn.params.toList sh args.toList ds p base hsh (fun j t v e1 e2=>hval j t v (by simpa using e1) (by simpa using e2)) hA;have hc:=hctr recs h1 w args.toList h2;rw[Array.toArray_toList]at hc;refine hc.mono ?_;rintro e w' ⟨v,S,rfl,hr,_,_,hsame⟩;simp only[j7,lK,bO]at hr;obtain⟨rfl,_,_⟩:=hr;have hlen:∀ (ts:List TypeId) (vs:List Value) (ds:List (DataW H)) (ps:List MemPlace),afn enc P w 0 (fun _=>true) true ts vs ds ps->ds.length=ts.length:=by
  intro ts
  induction ts with
  |nil=>intro vs ds ps h;obtain⟨_,rfl,_⟩:=trodAll_nil h;rfl
  |cons t ts ih=>intro vs ds ps h;obtain⟨v,vs',d,ds',p,q,rfl,rfl,rfl,_,h2⟩:=trodAll_cons h;simp[ih _ _ _ h2]
 have e1:s.fn H (ds++[])=⟨[.lit (.bool true)],ds,[]⟩:=hspec ds (hlen _ _ _ _ hA);refine⟨_,rfl,ds,[],p++[],[],p,[],hW',?_,?_,?_,hsame.keptBut _,fun h=>by cases h⟩
 ·rw[e1,hrt];exact trodAll_mk1 (shut_bool htb true)
 ·rw[e1];exact sq hl hsame.below _ _ _ _ hread hA (fun x hx=>hW'.lt x (by simpa using hx))
 ·rw[e1,hvars];rfl
end
end Go.V
namespace Go.V
theorem bE {a b:Int}(h: -9223372036854775808<=a+b/\a+b<=9223372036854775807):bR .add .i64 a b=a+b:=afv _ h
theorem dD {a b:Int}(h: -9223372036854775808<=a-b/\a-b<=9223372036854775807):bR .sub .i64 a b=a-b:=afv _ h
theorem eY {i:Int}{n:Nat}(h0:0<=i)(h1:i<n)(hn:n<=4611686018427387904):bR .add .i64 i 1=i+1:=bE (by omega)
theorem fG {α:Type}{es:List α}{d:α}{i:Nat}(hi:i<es.length):es.take (i+1)=es.take i++[es.getD i d]:=by
 rw[List.take_succ_eq_append_getElem hi,BY,IT hi];rfl
def cC (es:aa)(z:ay)(i:Nat):aa:=es.take i++adC (es.length-i) z
theorem dU {es:aa}{z:ay}:cC es z 0=adC es.length z:=by simp[cC]
theorem CZ {es:aa}{z:ay}:cC es z es.length=es:=by simp[cC]
theorem lB {es:aa}{z:ay}{i:Nat}(hi:i<=es.length):(cC es z i).length=es.length:=by simp[cC];omega
theorem C0 {es:aa}{z:ay}{i:Nat}(hi:i<es.length):(cC es z i).set i (es.getD i [])=cC es z (i+1):=by
 unfold cC;rw[fG (d:=[]) hi,List.set_append_right _ _ (by simp;omega)];have:(es.take i).length=i:=by simp;omega
 rw[this,afc];rw[show es.length-i=(es.length- (i+1))+1 from by omega,List.replicate_succ,List.set_cons_zero];simp
theorem pp {es:aa}{z:ay}{i:Nat}(hi:i<es.length):(cC es z i).getD i []=z:=by
 unfold cC;have:(es.take i).length=i:=by simp;omega
 rw[BY,ac9 (by omega),this,afc,List.getElem?_replicate];rw[if_pos (by omega)];rfl
theorem lE {sz:Nat}{es:aa}{n:Nat}{new:ay}(h:(es.getD n []).length=new.length):sW (.s sz es) [(n,0)] new=es.set n new:=by
 simp only[sW,mQ,rowOf,List.take_zero,ads,adt];rw[List.drop_of_length_le (by omega),adP]
theorem iu {sz:Nat}{es:aa}{n o m:Nat}(hn:n<es.length)(hl:o+m<=(es.getD n []).length):∃ rec o',bX (.s sz es) [(n,o)]=some (rec,o')/\o'+m<=rec.length:=by
 refine⟨es.getD n [],o,?_,hl⟩;rw[oS,BY,IT hn];rfl
theorem ao {z:ay}{es:aa}{i:Int}(hr:Wf z es)(h0:0<=i)(h1:i<es.length):mZ ah es i 0 z=es.getD i.toNat []:=(oG hr h0 h1).2.2.symm
theorem O6 {a b:Int}:(dx .eql a b=true)↔a=b:=by simp[dx]
theorem O5 {a b:Int}:(dx .eql a b=false)↔a≠b:=by simp[dx]
theorem Pi {a b:Int}:(dx .neq a b=true)↔a≠b:=by simp[dx]
theorem Ph {a b:Int}:(dx .neq a b=false)↔a=b:=by simp[dx]
theorem Pg {a b:Int}:(dx .lss a b=true)↔a<b:=by simp[dx]
theorem Pf {a b:Int}:(dx .lss a b=false)↔b<=a:=by simp[dx]
theorem Pe {a b:Int}:(dx .leq a b=true)↔a<=b:=by simp[dx]
theorem Pd {a b:Int}:(dx .leq a b=false)↔b<a:=by simp[dx]
theorem Pb {a b:Int}:(dx .gtr a b=true)↔b<a:=by simp[dx]
theorem O9 {a b:Int}:(dx .gtr a b=false)↔a<=b:=by simp[dx]
theorem O8 {a b:Int}:(dx .geq a b=true)↔b<=a:=by simp[dx]
theorem O7 {a b:Int}:(dx .geq a b=false)↔a<b:=by simp[dx]
theorem abg {b:Bool}:(TV b=true)↔b=false:=by cases b<;>simp[TV]
theorem abf {b:Bool}:(TV b=false)↔b=true:=by cases b<;>simp[TV]
theorem LE {a b:Bool}:(KA .eql a b=true)↔a=b:=by simp[KA]
theorem LD {a b:Bool}:(KA .eql a b=false)↔a≠b:=by simp[KA]
theorem LG {a b:Bool}:(KA .neq a b=true)↔a≠b:=by simp[KA]
theorem LF {a b:Bool}:(KA .neq a b=false)↔a=b:=by simp[KA]
theorem az {i:Int}:adI 0 i=i.toNat:=adt _
theorem qd {n b:Nat}(h:n*b<=70368744177664)(hn:n<=70368744177664):0<=Ti n/\Ti n<=Ti n/\Ti n*(b:Int)<=70368744177664/\Ti n<=70368744177664:=by
 unfold Ti;refine⟨by omega,by omega,?_,by omega⟩;rw[<-Int.natCast_mul];omega
theorem nc {n:Nat}:(NatCast.natCast n:Int)=Int.ofNat n:=rfl
theorem sa {es:aa}:oW es 0 es.length=es:=by simp[oW]
end Go.V
namespace Go.V
def pw :Nat->ay->List Hv
 |_,[]=>[]
 | i,l::ls=>match l with
   | .s sz es=>⟨0,0,some i,.own (.s sz es)⟩::pw (i+1) ls
   | .v x=>⟨0,0,none,.own (.v x)⟩::pw i ls
   | .g=>⟨0,0,none,.own .g⟩::pw i ls
   | .m kb es=>⟨0,0,none,.own (.m kb es)⟩::pw i ls
def EF (O:DZ):Nat->Nat->List DV->List W
 |_,_,[]=>[]
 |p,i,d::ds=>.root p false (pw i (aR d)):: .reg p (GG O p 0 d)::EF O (p+1) (i+(slL (aR d)).length) ds
def Jr (O:DZ)(ds:List DV):VS:=push [] (EF O 0 0 ds)
def JX {α:Type}(pr:(Unit->Prop)->Prop)(os:Nat->L):List (Nat×Nat)->Nat->Rd α->Rd α
 |[],_,k=>k
 | (r,j)::ps,i,k=>hP r j fun h=>match h.org with
  | some i'=>if ad7 i' i then match h.c with
    | .own (.s sz es)=>.req (pr fun _=>L.s sz es=os i) (JX pr os ps (i+1) k)
    |_=>.fail
    else .fail
  |none=>.fail
def Kr (T:BV)(O:DZ)(ts:List TypeId)(rvs:List ResultVar)(locs:List (Nat×Nat))(σ:VS)(res:List DV)(outs:Nat->L):Prop:=
 (Bj T O ts rvs fun ds srcs=>if bz (srcs++locs)then .req (O.pr fun _=>ds=res) (JX O.pr outs locs 0 (.ret ()))else .fail).wpU (get σ) [] fun _ _=>True
def XA (T:BV)(O:DZ)(ts:List TypeId)(rvs:List ResultVar)(locs:List (Nat×Nat))(res:List DV)(outs:Nat->L):Ex->VS->Prop
 | .normal,σ=>Kr T O ts rvs locs σ res outs
 | .ret,σ=>Kr T O ts rvs locs σ res outs
 | .exit _,_=>False
section
variable {P : Program} {cx : Cx} {G : Gh} {g : Gm} {a : Act} {w : World}
theorem uu :∀ {ls:ay} {vs:List Value} {i:Nat},vs.length=ls.length->(∀ k v,(E9 ls vs)[k]?=some v->cx.anc (i+k)=v)->∀ (j:Nat) (h:Hv),(pw i ls)[j]?=some h->
 ∃ l v og,ls[j]?=some l/\vs[j]?=some v/\h=⟨0,0,og,.own l⟩/\eT cx h.c h.org v
 |[],vs,i,_,_,j,h,e=>by simp[pw]at e
 |l::ls,[],i,hl,_,j,h,e=>by simp at hl
 | l::ls,v::vs,i,hl,ha,j,h,e=>by
   cases l with
   | s sz es=>
     simp only[pw]at e;cases j with
     | zero=>
       simp at e;subst e;refine⟨_,v,some i,rfl,rfl,rfl,fun k hk=>?_⟩;cases hk;exact(ha 0 v (by simp[E9])).symm
     | succ j=>
       obtain⟨l,v',og,e1,e2,e3,e4⟩:=uu (ls:=ls) (vs:=vs) (i:=i+1) (by simpa using hl) (fun k v hk=>by rw[show i+1+k=i+(k+1)from by omega];exact ha (k+1) v (by simpa[E9]using hk)) j h (by simpa using e);exact⟨l,v',og,by simpa using e1,by simpa using e2,e3,e4⟩
   | v x=>
     simp only[pw]at e;cases j with
     |zero=>simp at e;subst e;exact⟨_,v,none,rfl,rfl,rfl,eT.none⟩
     | succ j=>
       obtain⟨l,v',og,e1,e2,e3,e4⟩:=uu (ls:=ls) (vs:=vs) (i:=i) (by simpa using hl) (fun k v hk=>ha k v (by simpa[E9]using hk)) j h (by simpa using e);exact⟨l,v',og,by simpa using e1,by simpa using e2,e3,e4⟩
   | g=>
     simp only[pw]at e;cases j with
     |zero=>simp at e;subst e;exact⟨_,v,none,rfl,rfl,rfl,eT.none⟩
     | succ j=>
       obtain⟨l,v',og,e1,e2,e3,e4⟩:=uu (ls:=ls) (vs:=vs) (i:=i) (by simpa using hl) (fun k v hk=>ha k v (by simpa[E9]using hk)) j h (by simpa using e);exact⟨l,v',og,by simpa using e1,by simpa using e2,e3,e4⟩
   | m kb es=>
     simp only[pw]at e;cases j with
     |zero=>simp at e;subst e;exact⟨_,v,none,rfl,rfl,rfl,eT.none⟩
     | succ j=>
       obtain⟨l,v',og,e1,e2,e3,e4⟩:=uu (ls:=ls) (vs:=vs) (i:=i) (by simpa using hl) (fun k v hk=>ha k v (by simpa[E9]using hk)) j h (by simpa using e);exact⟨l,v',og,by simpa using e1,by simpa using e2,e3,e4⟩
theorem KN {ls:ay}{i j:Nat}{l:L}(h:ls[j]?=some l):∃ og,(pw i ls)[j]?=some ⟨0,0,og,.own l⟩:=by
 induction ls generalizing i j with
 |nil=>simp at h
 | cons x ls ih=>
   cases j with
   |zero=>simp at h;subst h;cases x<;>exact⟨_,rfl⟩
   | succ j=>
     simp at h;cases x with
     |s sz es=>obtain⟨og,e⟩:=ih (i:=i+1) h;exact⟨og,by simpa[pw]using e⟩
     |v y=>obtain⟨og,e⟩:=ih (i:=i) h;exact⟨og,by simpa[pw]using e⟩
     |g=>obtain⟨og,e⟩:=ih (i:=i) h;exact⟨og,by simpa[pw]using e⟩
     |m _ _=>obtain⟨og,e⟩:=ih (i:=i) h;exact⟨og,by simpa[pw]using e⟩
theorem pI :∀ {ls:ay} {vs:List Value},vs.length=ls.length->(E9 ls vs).length=(slL ls).length
 |[],[],_=>rfl
 |[],_::_,h=>by simp at h
 |_::_,[],h=>by simp at h
 | l::ls,v::vs,h=>by
   have ih:=pI (ls:=ls) (vs:=vs) (by simpa using h);cases l<;>simp[E9,slL,ih]
theorem NO {a:Act}{p:Nat}{v:Value}(hp:p<a.tmps.size)(h:a.tmps.getD p undef=v):a.put (some p) v=a:=by
 obtain⟨t,d⟩:=a;simp only[Act.put]at*
 congr 1
 apply Array.ext_getElem?;intro i;rw[Array.getElem?_setIfInBounds];by_cases e:p=i
 ·subst e;rw[if_pos rfl,if_pos hp];rw[<-h,adE,aeh hp];rfl
 ·rw[if_neg e]
theorem AS :∀ (ds:List DV) (p i:Nat) (vs:List Value) (S:List Nat) (g:Gm) (G:Gh),aO cx G g a w->(∀ r,p<=r->g (.meta_ r)=none)->bU w ds vs S->S.Nodup->
 (∀ b∈S,fh w b/\G.ow b=some (.leaf cx.n 0))->p+ds.length<=cx.n->(∀ k v,vs[k]?=some v->a.tmps.getD (p+k) undef=v)->(∀ k v,(dE ds vs)[k]?=some v->cx.anc (i+k)=v)->
 fc cx (aS g (EF ah p i ds)) a w
 |[],p,i,vs,S,g,G,hS,_,_,_,_,_,_,_=>⟨G,hS⟩
 | d::ds,p,i,vs,S,g,G,hS,hm,hr,hnd,htok,hn,hv,ha=>by
   simp only[bU]at hr;obtain⟨v,vs',S1,S2,rfl,h1,h2,rfl⟩:=hr;rw[List.nodup_append]at hnd;obtain⟨n1,n2,n3⟩:=hnd;obtain⟨lv,q1,q2,q3,q4⟩:∃ lv,am w (aR d) lv S1/\(∀ dl,d=.one dl->lv=[v])/\(∀ dls,d=.agg dls->v=.agg lv.toArray)/\dE (d::ds) (v::vs')=E9 (aR d) lv++dE ds vs':=by
    cases d with
    |one l=>exact⟨[v],by simp only[aR,am];exact⟨v,[],S1,[],rfl,h1,⟨rfl,rfl⟩,by simp⟩,fun _ _=>rfl,(fun _ e=>by cases e),rfl⟩
    |agg ls=>obtain⟨us,rfl,h1'⟩:=h1;exact⟨us,h1',(fun _ e=>by cases e),(fun _ e=>by cases e;rfl),by simp[dE,aR]⟩
    |_=>exact h1.elim
   obtain⟨Ss,s1,s2,s3⟩:=q1.items;have hlen:=q1.length;have ha1:∀ k v,(E9 (aR d) lv)[k]?=some v->cx.anc (i+k)=v:=by
    intro k u hk;refine ha k u ?_;rw[q4,adj (acW.1 hk).1];exact hk
   have hat:=fun j h=>uu (cx:=cx) (ls:=aR d) (vs:=lv) (i:=i) hlen ha1 j h
   have hnone:gl g cx.n 0=none:=by
    cases e:gl g cx.n 0 with
    |none=>rfl
    | some y=>
      obtain⟨_,k,bx,_,e2,_⟩:=hS.leaf cx.n 0 _ (au.1 e);rw[hm cx.n (by simp at hn;omega)]at e2;cases e2
   obtain⟨G',k1,k2,_,_,k5⟩:=hS.newRoot (hm p (No _)) false (pw i (aR d)) w (Same.refl _ _) (fun j=>lv.getD j undef) (fun j=>Ss.getD j [])
    (by
      intro j h hj;obtain⟨l,u,og,e1,e2,e3,_⟩:=hat j h hj;obtain⟨u',z1,z2⟩:=s3 j l e1;rw[e3];simp only[Ky];refine⟨by simpa[ady,z1]using z2,ir (by rw[s1];exact n1) j,fun b hb=>?_⟩;have:=htok b (If.2 (.inl (by rw[<-s1];exact eX hb)));exact⟨this.1,.inr ⟨cx.n,0,this.2,fun h l e=>by rw[hnone]at e;cases e⟩⟩)
    (by
      intro j h hj;obtain⟨l,u,og,e1,e2,e3,e4⟩:=hat j h hj;have:lv.getD j undef=u:=by simp[ady,e2]
      rw[this];exact e4)
    (fun i j _ _ hij=>fK (by rw[s1];exact n1) i j hij) 0 0 (by simp)
   have hpn:p<cx.n:=by simp at hn;omega
   have hg:∀ j l,(aR d)[j]?=some l->∃ og,gl ((W.root p false (pw i (aR d))).app g) p (0+j)=some ⟨0,0,og,.own l⟩:=by
    intro j l e;obtain⟨og,e2⟩:=KN (i:=i) e;exact⟨og,by simp[gl,W.app,e2]⟩
   have hrok:cT (gl ((W.root p false (pw i (aR d))).app g)) G' w (GF p 0 d) v:=by
    refine Kb h1 hg ?_;intro lv' z1 z2 z3 j u e;have:lv'=lv:=by
     cases d with
     |one l=>rw[z2 l rfl,q2 l rfl]
     |agg ls=>have e1:=z3 ls rfl;rw[q3 ls rfl]at e1;simpa using e1.symm
     |_=>exact h1.elim
    subst this;rw[k2,adt];simp[ady,e]
   have hput:=k1.put hpn hrok;have hself:a.put (some p) v=a:=NO (by rw[hS.tm];exact hpn) (by have:=hv 0 v (by simp);simpa using this);rw[hself]at hput;simp only[EF,aS,Bl];refine AS ds (p+1) _ vs' S2 _ G' hput ?_ h2 n2 ?_ (by simp at hn;omega) ?_ ?_
   ·intro r hr;simp only[W.app];rw[if_neg (by intro e;cases e),if_neg (by omega)];exact hm r (by omega)
   ·intro b hb;have:=htok b (If.2 (.inr hb));refine⟨this.1,?_⟩;rw[k5 b (by simp) (fun j _ hbj=>n3 b (by rw[<-s1];exact eX hbj) b hb rfl)];exact this.2
   ·intro k u e;rw[show p+1+k=p+(k+1)from by omega];exact hv (k+1) u (by simpa using e)
   ·intro k u e;have hsl:=pI hlen;rw[show i+(slL (aR d)).length+k=i+((E9 (aR d) lv).length+k)from by rw[hsl];omega];refine ha _ u ?_;rw[q4,ac9 (by omega)]
    simpa using e
end
end Go.V
namespace Go.V
def Y8 {Φ:Type}(_:Φ):MT:=fun _=>none
def noC {Φ:Type}(_:Φ):CT:=fun _ _=>none
section
variable {P : Program} {T : BV} {cx : Cx} {G : Gh} {g : Gm} {a : Act} {w : World}
theorem KI (n:Nat)(w:World)(ds:List DV)(vs:List Value)(S:List Nat)(hr:bU w ds vs S)(hnd:S.Nodup)(hunf:∀ b∈S,fh w b)(hn:ds.length<=n):
 fc ⟨n,w,fun b=>b∉S,fun i=>(dE ds vs).getD i undef,fun _=>none,fun _=>0,fun _=>True⟩ (get (Jr ah ds)) {tmps:=vs.toArray++aeC (n-vs.toArray.size) undef,defers:=[]} w:=by
 have hlen:∀ (ds:List DV) (vs:List Value) (S:List Nat),bU w ds vs S->vs.length=ds.length:=by
  intro ds
  induction ds with
  |nil=>intro vs S h;simp only[bU]at h;simp[h.1]
  |cons d ds ih=>intro vs S h;simp only[bU]at h;obtain⟨v,vs',S1,S2,rfl,_,h2,_⟩:=h;simp[ih _ _ h2]
 have hl:=hlen ds vs S hr
 open Classical in
 let G:Gh:={loc:=fun _=>none,val:=fun _ _=>undef,fp:=fun _ _=>[],ow:=fun b=>if b∈S then some (.leaf n 0)else if b<w.heap.size then some .ro else none,lead:=id}
 unfold Jr;rw[AJ];refine AS ds 0 0 vs S (get []) G ?_ (fun _ _=>rfl) hr hnd (fun b hb=>⟨hunf b hb,by simp[G,hb]⟩) (by simp;omega) ?_ ?_
 ·refine⟨rfl,by simp;omega,?_,?_,?_,?_,?_,?_,Same.refl _ _,?_,?_,?_,(fun r b o e=>by cases e),(fun r1 r2 k1 k2 b o1 o2 _ e=>by simp[get]at e),(fun r b o e=>by cases e),fun _ _=>trivial⟩
  ·intro d x hx;cases hx
  ·intro r k hk;cases hk
  ·intro r j x hx;cases hx
  ·intro r x hx;cases hx
  ·intro r b hb;cases hb
  ·intro b t hb;by_cases c:b∈S;exact(hunf b c).lt
   ·by_cases c2:b<w.heap.size;exact c2
    ·simp[G,c,c2]at hb
  ·intro b hb hf;have hf:b∉S:=hf;have hb:b<w.heap.size:=hb
   right;simp[G,hf,hb]
  ·intro r j h e;simp[gl,get]at e
  ·intro r x e;cases e
 ·intro k v e;have hk:k<vs.length:=(acW.1 e).1;simp only[adt,adE];rw[afP (by simpa using hk)];simp[e]
 ·intro k v e;simp only[adt,BY,e];rfl
theorem wS (hS:aO cx G g a w){α:Type}{k:Rd α}{os:Nat->L}:∀ (locs:List (Nat×Nat)) (i:Nat) (ls:List Loc) (out:α),(JX oE os locs i k).Runs g ls out->
 (∀ p∈locs,∃ h sz es,g (.leaf p.1 p.2)=some (.h h)/\h.c=.own (.s sz es))/\am w ((afq i locs.length).map os) ((afq i locs.length).map cx.anc) (oR G locs)
 |[],i,ls,out,h=>⟨(fun p hp=>by cases hp),by simp[am,oR]⟩
 | (r,j)::ps,i,ls,out,h=>by
  obtain⟨hv,ls2,q1,q2,hk⟩:=bB (k:=fun h=>match h.org with
   | some i'=>if ad7 i' i then match h.c with
     | .own (.s sz es)=>.req (oE fun _=>L.s sz es=os i) (JX oE os ps (i+1) k)
     |_=>.fail
     else .fail
   |none=>.fail) h
  cases ho:hv.org with
  |none=>simp[ho,Rd.Runs]at hk
  | some i'=>
    simp only[ho]at hk;split at hk
    case isFalse=>exact hk.elim
    rename_i hb;have hi:=adh hb;subst hi;split at hk
    ·rename_i sz es hc;obtain⟨hp,hk⟩:=hk;have hp:L.s sz es=os i':=hp;obtain⟨k1,k2⟩:=wS hS ps (i'+1) _ _ hk;have hval:=hS.anc r j hv q1 i' ho;have hok:=hS.hok q1;simp only[eC,hc]at hok;refine⟨fun p hp=>?_,?_⟩
     ·rcases acZ.1 hp with rfl|hp;exact⟨hv,sz,es,q2,hc⟩;exact k1 p hp
     ·simp only[am,ac7,List.range'_succ,adH];exact⟨_,_,G.fp r j,oR G ps,rfl,by rw[<-hval, <-hp];exact hok.1,k2,rfl⟩
    ·exact hk.elim
theorem qu :∀ {ds:List DV} {vs:List Value} {S:List Nat},bU w ds vs S->(dE ds vs).length=(ds.flatMap fun d=>slL (aR d)).length
 |[],vs,S,h=>by simp only[bU]at h;simp[h.1,dE]
 | d::ds,vs,S,h=>by
   simp only[bU]at h;obtain⟨v,vs',S1,S2,rfl,h1,h2,rfl⟩:=h;have ih:=qu h2;cases d with
   | one l=>
     have:(E9 [l] [v]).length=(slL [l]).length:=pI rfl;simp only[dE,AT,ad9,aR,this,ih]
   | agg ls=>
     obtain⟨us,rfl,h1⟩:=h1;have:=pI h1.length;simp only[dE,AT,ad9,aR,ih];omega
   |_=>exact h1.elim
theorem rG {fn:Func}{tmps:Array Value}{w':World}{vs':List Value}{ds':List DV}{S:List Nat}(k1:(fn.results.toList.mapM (sV tmps)).run P w'=.ok vs' w')(k2:bU w' ds' vs' S):
 ∃ v,(results fn tmps).run P w'=.ok v w'/\j7 w' ds' v S:=by
 have hrun:(results fn tmps).run P w'=.ok (if h:vs'.toArray.size=1 then vs'.toArray[0]else .tuple vs'.toArray) w':=by
  rw[Iq,Array.mapM_eq_mapM_toList (m:=Sem)];simp only[Sem.run_bind,Sem.run_map,k1,Result.andThen_ok,Sem.run_pure]
 refine⟨_,hrun,?_⟩;have hl:∀ {ds:List DV} {vs:List Value} {S:List Nat},bU w' ds vs S->vs.length=ds.length:=by
  intro ds
  induction ds with
  |nil=>intro vs S h;simp only[bU]at h;simp[h.1]
  |cons d ds ih=>intro vs S h;simp only[bU]at h;obtain⟨v,vs',S1,S2,rfl,_,h2,_⟩:=h;simp[ih h2]
 have hlen:=hl k2;cases ds' with
 | nil=>
   have:vs'=[]:=adM hlen;subst this;exact⟨[],by simp,k2⟩
 | cons d1 rest=>
   cases rest with
   | nil=>
     simp only[bU]at k2;obtain⟨v,vs'',S1,S2,rfl,q1,⟨rfl,rfl⟩,rfl⟩:=k2
     simpa[j7]using q1
   | cons d2 rest=>
     have:¬ vs'.toArray.size=1:=by simp at hlen;simp;omega
     rw[dif_neg this];exact⟨vs',rfl,k2⟩
theorem P5 {Φ:Type}{F:Φ}:Ht P (Y8 F):=by intro f mk h;cases h
theorem Vs {Φ:Type}{F:Φ}:DI P (noC F):=by intro f ds pre res h;cases h
end
end Go.V
namespace Go.V
abbrev PT :=FuncId->Option PK
abbrev NT :=FuncId->Option NK
abbrev OT :=FuncId->Option TD
def Za {Φ:Type}(_:Φ):OT:=fun _=>none
theorem P7 {P:Program}{Φ:Type}{F:Φ}:Hw P (Za F):=by intro f mk h;cases h
def Y9 {Φ:Type}(_:Φ):NT:=fun _=>none
theorem P6 {P:Program}{Φ:Type}{F:Φ}:Hu P (Y9 F):=by intro f mk h;cases h
def Zb {Φ:Type}(_:Φ):PT:=fun _=>none
theorem P8 {P:Program}{Φ:Type}{F:Φ}:Hz P (Zb F):=by intro f mk h;cases h
def Zg (al:Bool)(r j:Nat):Option Nat:=match al with
 |true=>some (1000000000+(r*1000+j))
 |false=>none
def Jq (al:Bool)(r:Nat):Nat->List H->List Hv
 |_,[]=>[]
 |j,.own l::hs=>⟨0,0,Zg al r j,.own l⟩::Jq al r (j+1) hs
 |j,h::hs=>⟨0,0,some (r*1000+j),h⟩::Jq al r (j+1) hs
def gD (al:Bool):Nat->List DV->VS
 |_,[]=>[]
 |p,.mp hs::ds=>.reg p (.one (.pt p 0)):: .root p true (Jq al p 0 hs)::gD al (p+1) ds
 |p,d::ds=>.reg p (te d)::gD al (p+1) ds
def mpL :Nat->List DV->List (Nat×List H)
 |_,[]=>[]
 |p,.mp hs::ds=>(p,hs)::mpL (p+1) ds
 |p,_::ds=>mpL (p+1) ds
def iE :Nat->List DV->List gL->Nat->Option gL
 |p,.mp _::ds,q::ps,r=>if r=p then some q else iE (p+1) ds ps r
 |_,.mp _::_,[],_=>none
 |p,_::ds,ps,r=>iE (p+1) ds ps r
 |_,[],_,_=>none
theorem HR {al:Bool}{r:Nat}:∀ {hs:List H} {j i:Nat} {h:Hv},(Jq al r j hs)[i]?=some h->∃ c,hs[i]?=some c/\h.ver=0/\h.iv=0/\h.c=c/\(∀ l,c=.own l->h.org=Zg al r (j+i))/\((∀ l,c≠ .own l)->h.org=some (r*1000+(j+i)))
 |[],j,i,h,e=>by simp[Jq]at e
 | c::hs,j,i,h,e=>by
   cases i with
   | zero=>
     cases c with
     |own l=>simp[Jq]at e;subst e;exact⟨_,rfl,rfl,rfl,rfl,fun _ _=>rfl,fun k=>absurd rfl (k l)⟩
     |ro l=>simp[Jq]at e;subst e;exact⟨_,rfl,rfl,rfl,rfl,(fun _ k=>by cases k),fun _=>rfl⟩
     |gone=>simp[Jq]at e;subst e;exact⟨_,rfl,rfl,rfl,rfl,(fun _ k=>by cases k),fun _=>rfl⟩
   | succ i=>
     have:(Jq al r (j+1) hs)[i]?=some h:=by cases c<;>simpa[Jq]using e
     obtain⟨c',q1,q2,q3,q4,q5,q6⟩:=HR this;exact⟨c',by simpa using q1,q2,q3,q4,fun l k=>by rw[q5 l k];congr 1;omega,fun k=>by rw[q6 k];congr 2;omega⟩
theorem AQ {al:Bool}{r:Nat}:∀ {hs:List H} {j:Nat},(Jq al r j hs).length=hs.length
 |[],_=>rfl
 |c::hs,j=>by cases c<;>simp[Jq,AQ (hs:=hs)]
section
variable {P : Program} {T : BV} {w : World} {ok : Nat -> Prop}
theorem gU.length :∀ {ds:List DV} {vs:List Value} {ps:List gL},gU w ok ds vs ps->vs.length=ds.length
 |[],vs,ps,h=>by simp only[gU]at h;simp[h.1]
 | d::ds,vs,ps,h=>by
   cases d with
   |mp hs=>obtain⟨p,ps',vs',rfl,rfl,_,h⟩:=h;simp[h.length]
   |one l=>obtain⟨v,vs',S,rfl,_,_,h⟩:=h;simp[gU.length h]
   |agg l=>obtain⟨v,vs',S,rfl,_,_,h⟩:=h;simp[gU.length h]
   |ptr l=>obtain⟨v,vs',S,rfl,_,_,h⟩:=h;simp[gU.length h]
   |fn f l=>obtain⟨v,vs',S,rfl,_,_,h⟩:=h;simp[gU.length h]
theorem NC :∀ {ds:List DV} {ps:List gL} {p r:Nat} {q:gL},iE p ds ps r=some q->p<=r/\r<p+ds.length
 |[],ps,p,r,q,h=>by simp[iE]at h
 | d::ds,ps,p,r,q,h=>by
   have step:∀ ps,iE (p+1) ds ps r=some q->p<=r/\r<p+(d::ds).length:=fun ps h=>by
    have:=NC h;simp;omega
   cases d with
   | mp hs=>
     cases ps with
     |nil=>simp[iE]at h
     | cons q' ps=>
       simp only[iE]at h;split at h
       ·simp;omega
       ·exact step _ h
   |_=>exact step ps h
theorem sQ :∀ {ds:List DV} {vs:List Value} {ps:List gL} {p r:Nat} {q:gL},gU w ok ds vs ps->(iE p ds ps r=some q↔∃ k:Nat,(mpL p ds)[k]?=some (r,q.hs)/\ps[k]?=some q)
 |[],vs,ps,p,r,q,ha=>by simp[iE,mpL]
 | d::ds,vs,ps,p,r,q,ha=>by
   have mge:∀ {ds:List DV} {p k:Nat} {x:Nat×List H},(mpL p ds)[k]?=some x->p<=x.1:=by
    intro ds
    induction ds with
    |nil=>intro p k x h;simp[mpL]at h
    | cons d ds ih=>
      intro p k x h;cases d with
      | mp hs=>
        simp only[mpL]at h;cases k with
        |zero=>simp at h;subst h;exact No _
        |succ k=>simp at h;have:=ih h;omega
      |_=>have:=ih (p:=p+1) h;omega
   cases d with
   | mp hs=>
     obtain⟨p0,ps',vs',rfl,rfl,e,ha⟩:=ha;have ih:=sQ (p:=p+1) (r:=r) (q:=q) ha;simp only[iE,mpL]
     constructor
     ·intro h;split at h
      ·rename_i c;cases h;exact⟨0,by simp[c,e],by simp⟩
      ·obtain⟨k,h1,h2⟩:=ih.1 h;exact⟨k+1,by simpa using h1,by simpa using h2⟩
     ·rintro⟨k,h1,h2⟩;cases k with
      |zero=>simp at h1 h2;rw[if_pos h1.1.symm];rw[h2]
      | succ k=>
        simp at h1 h2;have:=mge h1;rw[if_neg (by simp only at this;omega)];exact ih.2 ⟨k,h1,h2⟩
   |one l=>obtain⟨v,vs',S,rfl,_,_,ha⟩:=ha;exact sQ (p:=p+1) ha
   |agg l=>obtain⟨v,vs',S,rfl,_,_,ha⟩:=ha;exact sQ (p:=p+1) ha
   |ptr l=>obtain⟨v,vs',S,rfl,_,_,ha⟩:=ha;exact sQ (p:=p+1) ha
   |fn f l=>obtain⟨v,vs',S,rfl,_,_,ha⟩:=ha;exact sQ (p:=p+1) ha
theorem sM {al:Bool}:∀ {ds:List DV} {vs:List Value} {ps:List gL} (p:Nat),gU w ok ds vs ps->
 (∀ r,get (gD al p ds) (.meta_ r)=(iE p ds ps r).map fun q=>.m q.hs.length true)/\
 (∀ r j,get (gD al p ds) (.leaf r j)=(iE p ds ps r).bind fun q=>((Jq al r 0 q.hs)[j]?).map .h)/\
 (∀ d x,get (gD al p ds) (.reg d)=some x->∃ i,d=p+i/\i<vs.length/\((∃ q,iE p ds ps d=some q/\x=.r (.one (.pt d 0))/\vs[i]?=some (.pointer (some ⟨q.b,q.off,none⟩)))\/(∃ dv v S,x=.r (te dv)/\vs[i]?=some v/\pM w dv v S/\∀ b∈S,ok b)))
 | [],vs,ps,p,ha=>by
   refine⟨fun r=>rfl,fun r j=>rfl,fun d x h=>by cases h⟩
 | d::ds,vs,ps,p,ha=>by
   have other:∀ (v:Value) (vs':List Value) (S:List Nat),vs=v::vs'->pM w d v S->(∀ b∈S,ok b)->gU w ok ds vs' ps->(∀ r,iE p (d::ds) ps r=iE (p+1) ds ps r)->gD al p (d::ds)=.reg p (te d)::gD al (p+1) ds->
    (∀ r,get (gD al p (d::ds)) (.meta_ r)=(iE p (d::ds) ps r).map fun q=>.m q.hs.length true)/\
    (∀ r j,get (gD al p (d::ds)) (.leaf r j)=(iE p (d::ds) ps r).bind fun q=>((Jq al r 0 q.hs)[j]?).map .h)/\
    (∀ d' x,get (gD al p (d::ds)) (.reg d')=some x->∃ i,d'=p+i/\i<vs.length/\((∃ q,iE p (d::ds) ps d'=some q/\x=.r (.one (.pt d' 0))/\vs[i]?=some (.pointer (some ⟨q.b,q.off,none⟩)))\/(∃ dv v S,x=.r (te dv)/\vs[i]?=some v/\pM w dv v S/\∀ b∈S,ok b))):=by
    intro v vs' S e h1 h2 h3 h4 h5;subst e;obtain⟨i1,i2,i3⟩:=sM (al:=al) (p+1) h3;rw[h5];refine⟨fun r=>by rw[h4, <-i1];simp[get,W.app],fun r j=>by rw[h4, <-i2];simp[get,W.app],fun d' x hx=>?_⟩;simp only[get,W.app]at hx;split at hx
    ·rename_i c;cases c;cases hx;exact⟨0,rfl,by simp,.inr ⟨d,v,S,rfl,rfl,h1,h2⟩⟩
    ·obtain⟨i,e1,e2,e3⟩:=i3 d' x hx;refine⟨i+1,by omega,by simpa using e2,?_⟩;rw[h4];rcases e3 with⟨q,k1,k2,k3⟩|⟨dv,v',S',k1,k2,k3,k4⟩;exact .inl ⟨q,k1,k2,by simpa using k3⟩;exact .inr ⟨dv,v',S',k1,by simpa using k2,k3,k4⟩
   cases d with
   | mp hs=>
     obtain⟨q,ps',vs',rfl,rfl,e,ha⟩:=ha;obtain⟨i1,i2,i3⟩:=sM (al:=al) (p+1) ha;subst e;have hp:iE (p+1) ds ps' p=none:=by
      cases h:iE (p+1) ds ps' p with
      |none=>rfl
      |some q=>have:=NC h;omega
     refine⟨fun r=>?_,fun r j=>?_,fun d' x hx=>?_⟩
     ·simp only[gD,get,W.app,iE];by_cases c:r=p
      ·subst c;simp[AQ]
      ·simp[c,i1]
     ·simp only[gD,get,W.app,iE];by_cases c:r=p
      ·subst c;simp
      ·simp[c,i2]
     ·simp only[gD,get,W.app]at hx;split at hx
      ·rename_i c;cases c;cases hx;exact⟨0,rfl,by simp,.inl ⟨q,by simp[iE],rfl,rfl⟩⟩
      ·rename_i c;obtain⟨i,e1,e2,e3⟩:=i3 d' x hx;refine⟨i+1,by omega,by simpa using e2,?_⟩;have hne:d'≠p:=by omega
       rcases e3 with⟨q',k1,k2,k3⟩|⟨dv,v',S',k1,k2,k3,k4⟩;exact .inl ⟨q',by simp only[iE];rw[if_neg hne];exact k1,k2,by simpa using k3⟩;exact .inr ⟨dv,v',S',k1,by simpa using k2,k3,k4⟩
   |one l=>obtain⟨v,vs',S,e,h1,h2,h3⟩:=ha;exact other v vs' S e h1 h2 h3 (fun _=>rfl) rfl
   |agg l=>obtain⟨v,vs',S,e,h1,h2,h3⟩:=ha;exact other v vs' S e h1 h2 h3 (fun _=>rfl) rfl
   |ptr l=>obtain⟨v,vs',S,e,h1,h2,h3⟩:=ha;exact other v vs' S e h1 h2 h3 (fun _=>rfl) rfl
   |fn f l=>obtain⟨v,vs',S,e,h1,h2,h3⟩:=ha;exact other v vs' S e h1 h2 h3 (fun _=>rfl) rfl
open Classical in
theorem KJ {al:Bool}(n:Nat)(w:World)(ds:List DV)(vs:List Value)(ps:List gL)(h:TE w ds vs ps)(hn:ds.length<=n)(anc:Nat->Value)(hanc:∀ r q j l,iE 0 ds ps r=some q->q.hs[j]?=some (.ro l)->anc (r*1000+j)=q.val j)(hanc2:∀ r q j l,al=true->iE 0 ds ps r=some q->q.hs[j]?=some (.own l)->anc (1000000000+(r*1000+j))=q.val j):
 ∃ G,aO ⟨n,w,fun b=>¬ nL ps b/\¬ rU ps b,anc,fun r=>(iE 0 ds ps r).map fun q=>(q.b,q.off),fun r=>((iE 0 ds ps r).map fun q=>q.hs.length).getD 0,fun _=>True⟩ G (get (gD al 0 ds)) {tmps:=vs.toArray++aeC (n-vs.toArray.size) undef,defers:=[]} w:=by
 have hl:=h.args.length;obtain⟨i1,i2,i3⟩:=sM (al:=al) 0 h.args;have ix:=fun {r q}=>sQ (p:=0) (r:=r) (q:=q) h.args
 have mem:∀ {r q},iE 0 ds ps r=some q->q∈ps:=fun e=>by
  obtain⟨k,_,e2⟩:=ix.1 e;exact List.mem_of_getElem? e2
 have isO:∀ b,nL ps b->∃ x:Nat×Nat,∃ q l,iE 0 ds ps x.1=some q/\q.hs[x.2]?=some (.own l)/\b∈q.fp x.2:=by
  rintro b ⟨q,hq,j,l,h1,h2⟩;obtain⟨k,hk⟩:=List.getElem?_of_mem hq;have hlen:∀ {ds:List DV} {vs:List Value} {ps:List gL} {p:Nat},gU w (fun b=>¬ nL ps b/\¬ rU ps b) ds vs ps->True:=fun _=>trivial
  have key:∀ (ok:Nat->Prop) (ds:List DV) (vs:List Value) (ps:List gL) (p k:Nat) (q:gL),gU w ok ds vs ps->ps[k]?=some q->∃ r,(mpL p ds)[k]?=some (r,q.hs):=by
   intro ok ds
   induction ds with
   |nil=>intro vs ps p k q h e;simp only[gU]at h;rw[h.2]at e;simp at e
   | cons d ds ih=>
     intro vs ps p k q h e;cases d with
     | mp hs=>
       obtain⟨p0,ps',vs',rfl,rfl,e0,h⟩:=h;cases k with
       |zero=>simp at e;subst e;exact⟨p,by simp[mpL,e0]⟩
       |succ k=>simp at e;obtain⟨r,hr⟩:=ih vs' ps' (p+1) k q h e;exact⟨r,by simpa[mpL]using hr⟩
     |one l=>obtain⟨v,vs',S,rfl,_,_,h⟩:=h;exact ih vs' ps (p+1) k q h e
     |agg l=>obtain⟨v,vs',S,rfl,_,_,h⟩:=h;exact ih vs' ps (p+1) k q h e
     |ptr l=>obtain⟨v,vs',S,rfl,_,_,h⟩:=h;exact ih vs' ps (p+1) k q h e
     |fn f l=>obtain⟨v,vs',S,rfl,_,_,h⟩:=h;exact ih vs' ps (p+1) k q h e
  obtain⟨r,hr⟩:=key _ ds vs ps 0 k q h.args hk;exact⟨(r,j),q,l,ix.2 ⟨k,hr,hk⟩,h1,h2⟩
 let G:Gh:={
  loc:=fun r=>(iE 0 ds ps r).map fun q=>(q.b,q.off)
  val:=fun r j=>((iE 0 ds ps r).map fun q=>q.val j).getD undef
  fp:=fun r j=>((iE 0 ds ps r).map fun q=>q.fp j).getD []
  ow:=fun b=>if ho:nL ps b then some (.leaf (isO b ho).choose.1 (isO b ho).choose.2)else if rU ps b then some (.box b)else if b<w.heap.size then some .ro else none
  lead:=fun r=>((iE 0 ds ps r).map fun q=>q.b).getD 0}
 have ixne:∀ {r r' q q'},iE 0 ds ps r=some q->iE 0 ds ps r'=some q'->r≠r'->∃ k k':Nat,k≠k'/\ps[k]?=some q/\ps[k']?=some q':=by
  intro r r' q q' e1 e2 hne;obtain⟨k,a1,a2⟩:=ix.1 e1;obtain⟨k',b1,b2⟩:=ix.1 e2;refine⟨k,k',fun e=>?_,a2,b2⟩;subst e;have h:=a1.symm.trans b1;simp at h;exact hne h.1
 have owO:∀ r j q l,iE 0 ds ps r=some q->q.hs[j]?=some (.own l)->∀ b∈q.fp j,G.ow b=some (.leaf r j):=by
  intro r j q l e1 e2 b hb;have ho:nL ps b:=⟨q,mem e1,j,l,e2,hb⟩;simp only[G,dif_pos ho];obtain⟨q',l',f1,f2,f3⟩:=(isO b ho).choose_spec;generalize(isO b ho).choose=x at*;by_cases c:x.1=r
  ·rw[c,e1]at f1;cases f1;by_cases cj:x.2=j
   ·rw[c,cj]
   ·obtain⟨k,_,hk⟩:=ix.1 e1;exact absurd hb (h.disj k _ k j q q l' l hk hk f2 e2 (fun e=>cj (by cases e;rfl)) b f3)
  ·obtain⟨k,k',hne,hk,hk'⟩:=ixne f1 e1 c;exact absurd hb (h.disj k _ k' j q' q l' l hk hk' f2 e2 (fun e=>hne (by cases e;rfl)) b f3)
 have owP:∀ b,rU ps b->G.ow b=some (.box b):=by
  intro b hb;simp only[G,dif_neg (h.box b hb),if_pos hb]
 have owR:∀ b,b<w.heap.size->¬ nL ps b/\¬ rU ps b->G.ow b=some .ro:=by
  intro b hb ⟨h1,h2⟩;simp only[G,dif_neg h1,if_neg h2,if_pos hb]
 have cellq:∀ {r q},iE 0 ds ps r=some q->∃ cur ty,w.heap[q.b]?=some (.cells cur ty (0,0))/\q.off+q.hs.length<=cur.size/\∀ j,j<q.hs.length->cur[q.off+j]?=some (q.val j):=fun e=>h.cell _ (mem e)
 refine⟨G,rfl,by simp;omega,?_,?_,?_,?_,?_,?_,Same.refl _ _,?_,?_,?_,?_,?_,?_,fun _ _=>trivial⟩
 ·intro d x hx;obtain⟨i,rfl,e2,e3⟩:=i3 d x hx;have hv:∀ v,vs[i]?=some v->(vs.toArray++aeC (n-vs.toArray.size) undef).getD (0+i) undef=v:=by
   intro v hv;simp only[adE,adt];rw[afP (by simpa using e2)];simp[hv]
  refine⟨by show 0+i<n;omega,?_⟩;rcases e3 with⟨q,k1,k2,k3⟩|⟨dv,v,S,k1,k2,k3,k4⟩
  ·refine⟨_,k2,?_⟩;simp only[cT,jg];exact⟨q.b,q.off,by simp only[G,k1,adR],hv _ k3⟩
  ·refine⟨_,k1,?_⟩;simp only;rw[hv _ k2];have tok:∀ b∈S,b<w.heap.size->G.ow b=some .ro:=fun b hb hlt=>owR b hlt (k4 b hb)
   cases dv with
   | one l=>
     simp only[te,cT];have:=vY (γ:=gl (get (gD al 0 ds))) (G:=G) [l] [v] S (by simp only[am];exact⟨v,[],S,[],rfl,k3,⟨rfl,rfl⟩,by simp⟩) (fun b hb=>tok b hb (bO.lt _ _ _ k3 b hb));simp only[adH,List.map_nil,b8]at this;obtain⟨v',vs'',e,h3,_⟩:=this;cases e;exact h3
   | agg lls=>
     obtain⟨us,e,h1⟩:=k3;simp only[te,cT];exact⟨us,e,vY _ _ S h1 (fun b hb=>tok b hb (am.lt _ _ _ h1 b hb))⟩
   | ptr rec=>
     obtain⟨b,off,cur,ty,fz,S',e1,e2,e3,e4,rfl⟩:=k3;simp only[te,cT];exact⟨b,off,cur,ty,fz,S',e1,e2,tok b (by simp) (aaB.1 e2).1,e3,e4,fun c hc=>tok c (by simp[hc]) (am.lt _ _ _ e4 c hc)⟩
   | fn f caps=>
     obtain⟨us,e,h1⟩:=k3;simp only[te,cT];refine⟨us,e,?_⟩;have key:∀ (caps:aa) (us:List Value) (S':List Nat),lL w caps us S'->(∀ b∈S',b∈S)->fk G w (caps.map fun rec=>.rp rec 0) us:=by
      intro caps
      induction caps with
      |nil=>intro us S' h _;simp only[lL]at h;simp[fk,h.1]
      | cons r rs ih=>
        intro us S' h hsub;simp only[lL]at h;obtain⟨v,vs',S1,S2,rfl,q1,q2,rfl⟩:=h;obtain⟨b,off,cur,ty,fz,S3,e1,e2,e3,e4,rfl⟩:=q1;exact⟨v,vs',rfl,⟨b,off,cur,ty,fz,S3,e1,e2,tok b (hsub b (by simp)) (aaB.1 e2).1,e3,e4,fun c hc=>tok c (hsub c (by simp[hc])) (am.lt _ _ _ e4 c hc)⟩,ih _ _ q2 (fun b hb=>hsub b (by simp[hb]))⟩
     exact key caps us S h1 (fun b hb=>hb)
   |mp hs=>exact k3.elim
 ·intro r k hk;rw[i1]at hk;cases e:iE 0 ds ps r with
  |none=>simp[e]at hk
  | some q=>
    simp[e]at hk;subst hk;obtain⟨cur,ty,f1,f2,f3⟩:=cellq e;refine⟨q.b,q.off,cur,ty,by simp[G,e],?_,f1,f2,fun j hj=>by simp[G,e,f3 j hj]⟩;rw[owP q.b ⟨q,mem e,rfl⟩];simp[G,e]
 ·intro r j x hx;rw[i2]at hx;cases e:iE 0 ds ps r with
  |none=>simp[e]at hx
  | some q=>
    simp only[e,aeo,ac1]at hx;obtain⟨hv,e1,rfl⟩:=hx;obtain⟨c,k1,k2,k3,k4,k5,k6⟩:=HR e1;refine⟨hv,q.hs.length,true,rfl,by rw[i1,e];rfl,(acW.1 k1).1,?_⟩;unfold eC;rw[k4];cases c with
    | own l=>
      obtain⟨m1,m2,m3⟩:=h.own q (mem e) j l k1;simp only[G,e,adR,adw];exact⟨m1,m2,fun b hb=>⟨owO r j q l e k1 b hb,m3 b hb⟩⟩
    | ro l=>
      obtain⟨m1,m2⟩:=h.ro q (mem e) j l k1;simp only[G,e,adR,adw];exact⟨q.fp j,m1,fun b hb=>owR b (bO.lt _ _ _ m1 b hb) (m2 b hb)⟩
    |gone=>exact absurd k1 (h.gone q (mem e) j)
 ·intro r x hx;rw[i1]at hx;cases e:iE 0 ds ps r with
  |none=>simp[e]at hx
  |some q=>simp[e]at hx;exact⟨_,_,hx.symm⟩
 ·intro r b hb;cases e:iE 0 ds ps r with
  |none=>simp[G,e]at hb
  |some q=>exact⟨q.hs.length,by rw[i1,e];rfl⟩
 ·intro b t hb;simp only[G]at hb;split at hb
  ·rename_i ho;obtain⟨q,hq,j,l,e1,e2⟩:=ho;exact bO.lt _ _ _ (h.own q hq j l e1).1 b e2
  ·split at hb
   ·rename_i hp;obtain⟨q,hq,rfl⟩:=hp;obtain⟨cur,ty,f1,_⟩:=h.cell q hq;exact(aaB.1 f1).1
   ·split at hb
    ·rename_i c;exact c
    ·cases hb
 ·intro b hb hf;exact .inr (owR b hb hf)
 ·intro r j hv e i hi;rw[au,i2]at e;cases e0:iE 0 ds ps r with
  |none=>simp[e0]at e
  | some q=>
    simp only[e0,aeo,ac1]at e;obtain⟨hv',e1,e2⟩:=e;cases e2;obtain⟨c,k1,k2,k3,k4,k5,k6⟩:=HR e1;cases c with
    | own l'=>
      rw[k5 l' rfl]at hi;cases al with
      |false=>cases hi
      | true=>
        cases hi;rw[adt];show _=anc _;rw[hanc2 r q j l' rfl e0 k1];simp[G,e0]
    | ro l'=>
      rw[k6 (by simp)]at hi;cases hi;rw[adt];show _=anc _;rw[hanc r q j l' e0 k1];simp[G,e0]
    |gone=>exact absurd k1 (h.gone q (mem e0) j)
 ·intro r x hx;cases e:iE 0 ds ps r with
  |none=>simp[e]at hx
  |some q=>exact⟨hx,by rw[i1,e];simp[e]⟩
 ·intro r b off hx;cases e:iE 0 ds ps r with
  |none=>simp[e]at hx
  | some q=>
    simp[e]at hx;obtain⟨rfl,rfl⟩:=hx;obtain⟨cur,ty,f1,f2,f3⟩:=cellq e;exact⟨cur,cur,ty,f1,f1,rfl,fun _ _=>rfl⟩
 ·intro r1 r2 k1 k2 b o1 o2 hne h1 h2 q1 q2;rw[i1]at h1 h2;cases e1:iE 0 ds ps r1 with
  |none=>simp[e1]at h1
  | some a1=>
    cases e2:iE 0 ds ps r2 with
    |none=>simp[e2]at h2
    | some a2=>
      simp[e1]at h1;simp[e2]at h2;simp[G,e1]at q1;simp[G,e2]at q2;obtain⟨rfl,rfl⟩:=q1;obtain⟨q2,rfl⟩:=q2;obtain⟨k,k',hk,m1,m2⟩:=ixne e1 e2 hne;have:=h.sep k k' a1 a2 hk m1 m2 q2.symm;omega
 ·intro r b off hx ha;cases e:iE 0 ds ps r with
  |none=>simp[G,e]at hx
  |some q=>simp[e]at ha
end
end Go.V