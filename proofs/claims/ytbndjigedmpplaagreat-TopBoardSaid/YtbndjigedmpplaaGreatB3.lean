/- A part of the proof of TopBoard: the abstract machine, the code that the statement reaches, the contracts of its functions. Part 3. The text is made short by a program. -/
import Derived.Test.YtbndjigedmpplaaGreatB2
set_option linter.unusedSimpArgs false
set_option linter.unusedVariables false
set_option linter.unusedSectionVars false
set_option maxHeartbeats 1000000
set_option maxRecDepth 10000
open Bool renaming and_eq_true->cc,and_self->eQ,false_and->oS,false_eq_true->jh,not_eq_true'->lV
open Int renaming toNat_natCast->kU
open List renaming append_assoc->en,append_nil->fA,drop_eq_getElem_cons->qU,drop_zero->lW,ext_getElem?->oT,getElem?_append_left->gp,getElem?_append_right->j_,getElem?_cons_zero->ji,getElem?_eq_getElem->gg,getElem?_eq_none->lX,getElem?_eq_some_iff->bo,getElem?_map->gX,getElem?_of_mem->ir,getElem?_set_ne->dv,getElem?_set_self->eB,getElem?_take_of_lt->hA,length_append->dz,length_cons->dC,length_map->eu,length_nil->gY,length_set->eR,length_take->iS,map_cons->hY,map_nil->lq,mem_append->g9,mem_cons->jt,mem_cons_of_mem->n3,mem_filter->oU,mem_map->lr,mem_of_getElem?->dQ,mem_range->ka,mem_singleton->gZ,range->c5,replicate->f_,take_add_one->iu,take_length->gB,take_of_length_le->g_
open Nat renaming add_zero->iT,le_refl->cH,le_trans->kb,lt_succ_iff_lt_or_eq->ju,not_lt_zero->e8,sub_self->mS,zero_add->ee,zero_le->fR
open Ne renaming symm->gq
open Option renaming map_eq_some_iff->dK,map_some->lY
namespace Go.aL.C
open Go.aL
def p2(ls:List dG)(x y:Int):Prop:=∃l∈ls,l.stay=true/\l.src=x/\l.dst=y
def mq(ls:List dG):Int->Int->Prop:=Relation.TransGen (p2 ls)
def dG.key(l:dG):Int×Int×Int×Int:=(l.src,l.h5,l.dst,l.kj)
structure PP(n:Net)(i:Nat)(l:dG):Prop where
 src:0<=l.src/\l.src<n.runs.length
 dst:0<=l.dst/\l.dst<n.runs.length
 ne:l.src≠l.dst
 calls:∀a b,n.runs[l.src.toNat]? =some a->n.runs[l.dst.toNat]? =some b->(0<=l.h5/\l.h5<a.calls.length)/\(0<=l.kj/\l.kj<b.calls.length)/\
  (∀c d,a.calls[l.h5.toNat]? =some c->b.calls[l.kj.toNat]? =some d->c.stop=d.stop)/\(l.stay=true->l.h5=a.calls.length -1/\l.kj=0)
 uniq:l.stay=true->∀(k:Nat)(o:dG),k<i->n.ch[k]? =some o->o.stay=true->o.src≠l.src/\o.dst≠l.dst
 free:l.stay=true->¬mq (n.ch.take i) l.dst l.src
 key:∀(k:Nat)(o:dG),k<i->n.ch[k]? =some o->o.key≠l.key
def uU(n:Net)(i:Nat):Prop:=∀l,n.ch[i]? =some l->PP n i l
def y3(n:Net):Prop:=n.ch.length<=1024/\∀i,uU n i
theorem Xr{ls:List dG}{l:dG}{x y:Int}(h:p2 (ls++[l]) x y):p2 ls x y∨(l.stay=true/\l.src=x/\l.dst=y):=by
 obtain⟨m,hm,aa⟩:=h;rcases g9.1 hm with hm|hm
 . exact .inl ⟨m,hm,aa⟩
 . rw[gZ] at hm;subst hm;exact .inr aa
theorem aLq{ls:List dG}{x y z:Int}(h:p2 ls x y)(af:mq ls y z):mq ls x z:=by
 induction af with
 |single az=>exact .tail (.single h) az
 |tail _ az bu=>exact .tail bu az
theorem aLp{ls:List dG}{x z:Int}(h:mq ls x z):∃y,p2 ls x y/\(y=z∨mq ls y z):=by
 induction h with
 |single az=>exact⟨_,az,.inl rfl⟩
 |tail _ az bu=>
  obtain⟨y,bh,bC⟩:=bu;refine⟨y,bh,.inr ?_⟩;rcases bC with rfl|bC
  . exact .single az
  . exact .tail bC az
def y0(ls:List dG)(d:Int->Nat):Prop:=∀x y,p2 ls x y->d y<d x
open Classical in
theorem FL(n:Net):∀i,i<=n.ch.length->(∀k,k<i->uU n k)->∃d,y0 (n.ch.take i) d
 |0,_,_=>⟨fun _=>0,fun x y ⟨l,ag,_⟩=>by simp at ag⟩
 |i+1,hi,h=>by
  obtain⟨d,aw⟩:=FL n i (by omega) fun k ao=>h k (by omega);obtain⟨l,ag⟩:∃l,n.ch[i]? =some l:=⟨n.ch[i],by simp⟩;have aV:n.ch.take (i+1)=n.ch.take i++[l]:=by rw[iu,ag];rfl
  rw[aV];have gP:=h i (by omega) l ag;by_cases ak:l.stay=true
  . refine⟨fun x=>d x+if x=l.src∨mq (n.ch.take i) x l.src then d l.dst+1 else 0,fun x y kq=>?_⟩
    simp only;rcases Xr kq with kq|⟨_,rfl,rfl⟩
    . have aa:=aw x y kq
      by_cases aE:y=l.src∨mq (n.ch.take i) y l.src
      . have ad:x=l.src∨mq (n.ch.take i) x l.src:=.inr (by
         rcases aE with rfl|aE
         . exact .single kq
         . exact aLq kq aE)
        rw[if_pos aE,if_pos ad];omega
      . rw[if_neg aE]
        omega
    . have aE:¬(l.dst=l.src∨mq (n.ch.take i) l.dst l.src):=fun e=>by
       rcases e with e|e
       . exact gP.ne e.symm
       . exact gP.free ak e
      rw[if_neg aE,if_pos (.inl rfl)];omega
  . exact⟨d,fun x y kq=>by
     rcases Xr kq with kq|⟨aa,_⟩
     . exact aw x y kq
     . exact absurd aa ak⟩
theorem FH{α:Type}{p q:α->Bool}{a:α}:∀(l:List α),(∀x∈l,p x=true->q x=true)->a∈l->q a=true->p a=false->l.countP p<l.countP q
 |[],_,h,_,_=>by cases h
 |x::l,pu,h,aG,ay=>by
  have hle:l.countP p<=l.countP q:=List.countP_mono_left fun y aE=>pu y (n3 _ aE);rw[List.countP_cons,List.countP_cons];rcases jt.1 h with rfl|h
  . rw[aG,ay];simp;omega
  . have bu:=FH l (fun y aE=>pu y (n3 _ aE)) h aG ay
    have:=pu x (by simp);cases aJR:p x with
    |true=>rw[this aJR];simp;omega
    |false=>simp;omega
theorem aDP{ls:List dG}{d:Int->Nat}(h:y0 ls d):∃d2,y0 ls d2/\∀x,d2 x<=ls.length:=by
 refine⟨fun x=>ls.countP fun l=>l.stay&&decide (d l.src<=d x),fun x y kq=>?_,fun x=>List.countP_le_length⟩;have aa:=h x y kq;obtain⟨l,ag,ak,rfl,rfl⟩:=kq;refine FH ls (fun m _ hm=>?_) ag ?_ ?_
 . simp only[cc,decide_eq_true_eq] at hm⊢
   exact⟨hm.1,by omega⟩
 . simp[ak]
 . simp;intro _;omega
theorem aPr{n:Net}{i:Nat}(h:∀k,k<i->uU n k){x y z:Int}(aa:p2 (n.ch.take i) x y)(af:p2 (n.ch.take i) x z):y=z:=by
 obtain⟨l,ag,ak,rfl,rfl⟩:=aa;obtain⟨m,hm,hK,he,rfl⟩:=af;obtain⟨a,a9⟩:=ir ag;obtain⟨b,aj⟩:=ir hm;have Ua:a<i:=by have:=(bo.1 a9).1;rw[iS] at this;omega
 have HI:b<i:=by have:=(bo.1 aj).1;rw[iS] at this;omega
 rw[hA Ua] at a9;rw[hA HI] at aj;rcases Nat.lt_trichotomy a b with az|az|az
 . exact absurd he.symm ((h b HI m aj).uniq hK a l az a9 ak).1
 . subst az;rw[a9] at aj;cases aj;rfl
 . exact absurd he ((h a Ua l a9).uniq ak b m az aj hK).1
theorem aMs{α:Type}{l:List α}{i k:Nat}{x:α}(ao:k<i)(h:l[k]? =some x):x∈l.take i:=by
 have:(l.take i)[k]? =some x:=by rw[hA ao];exact h
 exact dQ this
theorem Ay{α:Type}{l:List α}{i:Nat}{x:α}(h:x∈l.take i):∃k,k<i/\l[k]? =some x:=by
 obtain⟨k,ao⟩:=ir h;have gH:k<i:=by have:=(bo.1 ao).1;rw[iS] at this;omega
 exact⟨k,gH,by rw[hA gH] at ao;exact ao⟩
theorem aN2(n:Net)(i:Nat)(x y:Int)(aK:n.wf)(hi:i<n.ch.length)(ao:∀k,k<i->uU n k)(aE:0<=y):
 bT au Jz [.agg n.row,.int .i64 i,.int .i64 x,.int .i64 y] (fun v=>∃b,v=.bool b/\(b=false->¬mq (n.ch.take i) x y)):=by
 have hm:maxLen=9223372036854775807:=by rfl
 have pp:=aK.ch.2;obtain⟨ig,xw⟩:=FL n i (by omega) ao;obtain⟨d,aw,h0⟩:=aDP xw;have C8:∀z,d z<=i:=fun z=>by have:=h0 z;rw[iS] at this;omega
 refine bP aGB (by simp[Hg]) ?_;simp-implicitDefEqProofs (disch:=omega) only[go_sem,Hg,Net.row];refine ge (i+1) (fun t vs M=>∃z,vs=[.int .i64 i,.int .i64 z,.int .i64 y,.ptr 0 0,.int .i64 t]/\M=[.box n.row]/\(mq (n.ch.take i) x y->mq (n.ch.take i) z y/\d z+t<=i)) ⟨x,rfl,rfl,fun h=>⟨h,C8 x⟩⟩ ?_ ?_;rotate_left
 . rintro vs M ⟨z,rfl,rfl,H⟩
   have qo:decide (((i+1:Nat):Int)<=(i:Int))=false:=by simp;omega
   simp-implicitDefEqProofs (disch:=omega) only[go_sem,qo];exact⟨false,rfl,fun _ h=>by have:=(H h).2;omega⟩
 rintro t vs M aV pB ⟨z,rfl,rfl,H⟩;have xR:decide ((t:Int)<=(i:Int))=true:=by simp;omega
 simp-implicitDefEqProofs (disch:=omega) only[go_sem,xR];refine ge i (fun k vs M=>∃w:Int,vs=[.int .i64 i,.int .i64 z,.int .i64 y,.ptr 0 0,.int .i64 t,.int .i64 w,.int .i64 k]/\M=[.box n.row]/\((w=-1/\∀(j:Nat)(l:dG),j<k->n.ch[j]? =some l->l.stay=true->l.src≠z)∨p2 (n.ch.take i) z w))
  ⟨-1,rfl,rfl,.inl ⟨rfl,fun j l ap=>absurd ap (e8 _)⟩⟩ ?_ ?_
 . rintro k vs M gH fi ⟨w,rfl,rfl,q2⟩
   obtain⟨l,ag⟩:∃l,n.ch[k]? =some l:=⟨n.ch[k],by simp⟩;have last:(l.stay=true->l.src≠z)->(w=-1/\∀(j:Nat)(l:dG),j<k+1->n.ch[j]? =some l->l.stay=true->l.src≠z)∨p2 (n.ch.take i) z w:=fun cD=>by
    rcases q2 with⟨rfl,q2⟩|q2
    . refine .inl ⟨rfl,fun j m ap gI=>?_⟩
      rcases ju.1 ap with h|h
      . exact q2 j m h gI
      . subst h;rw[ag] at gI;cases gI;exact cD
    . exact .inr q2
   simp-implicitDefEqProofs (disch:=omega) only[go_sem,fi,ag,Net.row,dG.row];refine ck (fun aT=>?_) (fun aT=>?_);rotate_left
   . simp-implicitDefEqProofs (disch:=omega) only[go_sem]
     exact dJ gH rfl ⟨w,rfl,rfl,last fun e=>by rw[aT] at e;cases e⟩
   simp-implicitDefEqProofs (disch:=omega) only[go_sem,ag,dG.row];refine a5 (fun a2=>?_) (fun a2=>?_);rotate_left
   . simp-implicitDefEqProofs (disch:=omega) only[go_sem]
     exact dJ gH rfl ⟨w,rfl,rfl,last fun _=>a2⟩
   simp-implicitDefEqProofs (disch:=omega) only[go_sem,ag,dG.row];exact dJ gH rfl ⟨l.dst,rfl,rfl,.inr ⟨l,aMs gH ag,aT,a2,rfl⟩⟩
 rintro vs M ⟨w,rfl,rfl,q2⟩;simp-implicitDefEqProofs (disch:=omega) only[go_sem,db];refine a5 (fun aT=>?_) (fun aT=>?_)
 . simp-implicitDefEqProofs (disch:=omega) only[go_sem]
   exact⟨true,rfl,fun h=>by cases h⟩
 simp-implicitDefEqProofs (disch:=omega) only[go_sem];refine dJ aV rfl ⟨w,rfl,rfl,fun h=>?_⟩;obtain⟨aa,af⟩:=H h;obtain⟨u,hu,az⟩:=aLp aa;rcases q2 with⟨rfl,q2⟩|q2
 . obtain⟨l,ag,ak,aKf,_⟩:=hu
   obtain⟨j,ap,ex⟩:=Ay ag;exact absurd aKf (q2 j l ap ex ak)
 . have:=aPr ao hu q2
   subst this;have bh:=aw z u hu;rcases az with rfl|az
   . exact absurd rfl aT
   . exact⟨az,by omega⟩
end Go.aL.C
namespace Go.aL.C
open Go.aL
theorem aN3(n:Net)(i:Nat)(l:dG)(aK:n.wf)(ag:n.ch[i]? =some l)(ao:∀k,k<i->uU n k):bT au JA [.agg n.row,.int .i64 i] (fF (uU n i)):=by
 have hm:maxLen=9223372036854775807:=by rfl
 have pp:=aK.ch.2;have om:=aK.runs.2;have km:=(bo.1 ag).1;have UI:=aK.ch.1 l (dQ ag);refine bP aGC (by simp[Hh]) ?_;simp-implicitDefEqProofs (disch:=omega) only[go_sem,Hh,Net.row,ag,dG.row];first|refine b1 (gn _ _ _) ?_|refine bV (gn _ _ _) ?_
 simp-implicitDefEqProofs (disch:=omega) only[go_sem];refine ck (fun aT=>?_) (fun aT=>?_);rotate_left
 . simp-implicitDefEqProofs (disch:=omega) only[go_sem]
   exact fF.err _ (by omega)
 rw[within_iff] at aT;simp-implicitDefEqProofs (disch:=omega) only[go_sem];first|refine b1 (gn _ _ _) ?_|refine bV (gn _ _ _) ?_
 simp-implicitDefEqProofs (disch:=omega) only[go_sem];refine ck (fun a2=>?_) (fun a2=>?_);rotate_left
 . simp-implicitDefEqProofs (disch:=omega) only[go_sem]
   exact fF.err _ (by omega)
 rw[within_iff] at a2;simp-implicitDefEqProofs (disch:=omega) only[go_sem];refine a5 (fun bJ=>?_) (fun bJ=>?_)
 . simp-implicitDefEqProofs (disch:=omega) only[go_sem]
   exact fF.err _ (by omega)
 obtain⟨a,a9⟩:∃a,n.runs[l.src.toNat]? =some a:=⟨n.runs[l.src.toNat]'(by omega),by simp⟩;obtain⟨b,aj⟩:∃b,n.runs[l.dst.toNat]? =some b:=⟨n.runs[l.dst.toNat]'(by omega),by simp⟩;have aHK:=(aK.runs.1 a (dQ a9)).2.2.2.2.2.2;have sH:=(aK.runs.1 b (dQ aj)).2.2.2.2.2.2;have H3:0<=l.src:=aT.1;have xw:0<=l.dst:=a2.1;simp-implicitDefEqProofs (disch:=omega) only[go_sem,a9,aj,bM.row];first|refine b1 (gn _ _ _) ?_|refine bV (gn _ _ _) ?_
 simp-implicitDefEqProofs (disch:=omega) only[go_sem];refine ck (fun c8=>?_) (fun c8=>?_);rotate_left
 . simp-implicitDefEqProofs (disch:=omega) only[go_sem]
   exact fF.err _ (by omega)
 rw[within_iff] at c8;simp-implicitDefEqProofs (disch:=omega) only[go_sem];first|refine b1 (gn _ _ _) ?_|refine bV (gn _ _ _) ?_
 simp-implicitDefEqProofs (disch:=omega) only[go_sem];refine ck (fun eI=>?_) (fun eI=>?_);rotate_left
 . simp-implicitDefEqProofs (disch:=omega) only[go_sem]
   exact fF.err _ (by omega)
 rw[within_iff] at eI;obtain⟨c,ar⟩:∃c,a.calls[l.h5.toNat]? =some c:=⟨a.calls[l.h5.toNat]'(by omega),by simp⟩;obtain⟨e,he⟩:∃e,b.calls[l.kj.toNat]? =some e:=⟨b.calls[l.kj.toNat]'(by omega),by simp⟩;have C3:0<=l.h5:=c8.1;have M0:0<=l.kj:=eI.1;simp-implicitDefEqProofs (disch:=omega) only[go_sem,ar,he,bG.row];refine a5 (fun eZ=>?_) (fun eZ=>?_);rotate_left
 . simp-implicitDefEqProofs (disch:=omega) only[go_sem]
   exact fF.err _ (by omega)
 have Mg:(l.stay=true->l.h5=a.calls.length -1/\l.kj=0)->∀dt iW,n.runs[l.src.toNat]? =some dt->n.runs[l.dst.toNat]? =some iW->(0<=l.h5/\l.h5<dt.calls.length)/\(0<=l.kj/\l.kj<iW.calls.length)/\
  (∀c d,dt.calls[l.h5.toNat]? =some c->iW.calls[l.kj.toNat]? =some d->c.stop=d.stop)/\(l.stay=true->l.h5=dt.calls.length -1/\l.kj=0):=fun bl dt iW T9 mz=>by
  rw[a9] at T9;cases T9;rw[aj] at mz;cases mz;refine⟨⟨by omega,by omega⟩,⟨by omega,by omega⟩,fun cK hF rz vh=>?_,bl⟩;rw[ar] at rz;cases rz;rw[he] at vh;cases vh;exact eZ
 by_cases bl:l.stay=true->l.h5=a.calls.length -1/\l.kj=0;rotate_left
 . have iI:l.stay=true:=by
    cases h:l.stay with
    |true=>rfl
    |false=>exact absurd (fun e=>by rw[h] at e;cases e) bl
   have aRh:(l.stay=true)=True:=by simp[iI]
   simp-implicitDefEqProofs (disch:=omega) only[go_sem];refine ck (fun _=>?_) (fun h=>?_);rotate_left
   . rw[iI] at h;cases h
   simp-implicitDefEqProofs (disch:=omega) only[go_sem];refine a5 (fun lH=>?_) (fun lH=>?_);rotate_left
   . simp-implicitDefEqProofs (disch:=omega) only[go_sem]
     exact fF.err _ (by omega)
   simp-implicitDefEqProofs (disch:=omega) only[go_sem];refine a5 (fun tI=>?_) (fun tI=>?_)
   . exact absurd (fun _=>⟨lH,tI⟩) bl
   simp-implicitDefEqProofs (disch:=omega) only[go_sem];exact fF.err _ (by omega)
 have Mg:=Mg bl;simp-implicitDefEqProofs (disch:=omega) only[go_sem];refine ck (fun iI=>?_) (fun iI=>?_);rotate_left;simp-implicitDefEqProofs (disch:=omega) only[go_sem];rotate_left;obtain⟨dx,dm⟩:=bl iI;simp-implicitDefEqProofs (disch:=omega) only[go_sem];refine a5 (fun _=>?_) (fun h=>absurd dx h);simp-implicitDefEqProofs (disch:=omega) only[go_sem];refine a5 (fun _=>?_) (fun h=>absurd dm h);simp-implicitDefEqProofs (disch:=omega) only[go_sem];all_goals
  refine ge i (fun k vs M=>vs=[.int .i64 i,.ptr 0 0,.ptr 1 0,.int .i64 k]/\M=[.box n.row,.box l.row]/\(l.stay=true->∀(j:Nat)(o:dG),j<k->n.ch[j]? =some o->o.stay=true->o.src≠l.src/\o.dst≠l.dst)) ⟨rfl,rfl,fun _ j o ap=>absurd ap (e8 _)⟩ ?_ ?_
  . rintro k vs M gH fi ⟨rfl,rfl,H⟩
    obtain⟨o,aA⟩:∃o,n.ch[k]? =some o:=⟨n.ch[k],by simp⟩;have last:(l.stay=true->o.stay=true->o.src≠l.src/\o.dst≠l.dst)->(l.stay=true->∀(j:Nat)(o:dG),j<k+1->n.ch[j]? =some o->o.stay=true->o.src≠l.src/\o.dst≠l.dst):=fun cD ak j m ap gI=>by
     rcases ju.1 ap with h|h
     . exact H ak j m h gI
     . subst h;rw[aA] at gI;cases gI;exact cD ak
    simp-implicitDefEqProofs (disch:=omega) only[go_sem,fi,aA,Net.row,dG.row];refine ck (fun bW=>?_) (fun bW=>?_);rotate_left
    . simp-implicitDefEqProofs (disch:=omega) only[go_sem]
      exact dJ gH rfl ⟨rfl,rfl,last fun e=>by rw[bW] at e;cases e⟩
    simp-implicitDefEqProofs (disch:=omega) only[go_sem];refine ck (fun b8=>?_) (fun b8=>?_);rotate_left
    . simp-implicitDefEqProofs (disch:=omega) only[go_sem]
      exact dJ gH rfl ⟨rfl,rfl,last fun _ e=>by rw[b8] at e;cases e⟩
    simp-implicitDefEqProofs (disch:=omega) only[go_sem];refine a5 (fun cN=>?_) (fun cN=>?_)
    . simp-implicitDefEqProofs (disch:=omega) only[go_sem]
      exact fF.err _ (by omega)
    simp-implicitDefEqProofs (disch:=omega) only[go_sem];refine a5 (fun dl=>?_) (fun dl=>?_)
    . simp-implicitDefEqProofs (disch:=omega) only[go_sem]
      exact fF.err _ (by omega)
    simp-implicitDefEqProofs (disch:=omega) only[go_sem];exact dJ gH rfl ⟨rfl,rfl,last fun _ _=>⟨cN,dl⟩⟩
  rintro vs M ⟨rfl,rfl,H⟩;have aEQ:(l.stay=true->¬mq (n.ch.take i) l.dst l.src)->(∀(j:Nat)(o:dG),j<i->n.ch[j]? =some o->o.key≠l.key)->uU n i:=fun aD jp l' er=>by
   rw[ag] at er;cases er;exact⟨⟨by omega,by omega⟩,⟨by omega,by omega⟩,bJ,Mg,H,aD,jp⟩
  simp-implicitDefEqProofs (disch:=omega) only[go_sem,db,Net.row,dG.row];refine ck (fun c2=>?_) (fun c2=>?_);rotate_left;simp-implicitDefEqProofs (disch:=omega) only[go_sem];rotate_left;simp-implicitDefEqProofs (disch:=omega) only[go_sem];refine fw (aN2 n i l.dst l.src aK km ao H3) ?_;rintro v ⟨Lq,rfl,aj⟩;simp-implicitDefEqProofs (disch:=omega) only[go_sem];refine ck (fun dw=>?_) (fun dw=>?_)
  . simp-implicitDefEqProofs (disch:=omega) only[go_sem]
    exact fF.err _ (by omega)
  have HQ:l.stay=true->¬mq (n.ch.take i) l.dst l.src:=fun _=>aj dw;simp-implicitDefEqProofs (disch:=omega) only[go_sem];rotate_left;have HQ:l.stay=true->¬mq (n.ch.take i) l.dst l.src:=fun e=>by rw[c2] at e;cases e
  rotate_left;all_goals
   refine ge i (fun k vs M=>vs=[.int .i64 i,.ptr 0 0,.ptr 1 0,.int .i64 k]/\M=[.box n.row,.box l.row]/\(∀(j:Nat)(o:dG),j<k->n.ch[j]? =some o->o.key≠l.key)) ⟨rfl,rfl,fun j o ap=>absurd ap (e8 _)⟩ ?_ ?_
   . rintro k vs M gH fi ⟨rfl,rfl,H⟩
     obtain⟨o,aA⟩:∃o,n.ch[k]? =some o:=⟨n.ch[k],by simp⟩;have last:o.key≠l.key->(∀(j:Nat)(o:dG),j<k+1->n.ch[j]? =some o->o.key≠l.key):=fun cD j m ap gI=>by
      rcases ju.1 ap with h|h
      . exact H j m h gI
      . subst h;rw[aA] at gI;cases gI;exact cD
     simp-implicitDefEqProofs (disch:=omega) only[go_sem,fi,aA,Net.row,dG.row];refine a5 (fun bW=>?_) (fun bW=>?_);rotate_left
     . simp-implicitDefEqProofs (disch:=omega) only[go_sem]
       exact dJ gH rfl ⟨rfl,rfl,last fun e=>bW (congrArg (·.1) e)⟩
     simp-implicitDefEqProofs (disch:=omega) only[go_sem];refine a5 (fun b8=>?_) (fun b8=>?_);rotate_left
     . simp-implicitDefEqProofs (disch:=omega) only[go_sem]
       exact dJ gH rfl ⟨rfl,rfl,last fun e=>b8 (congrArg (·.2.1) e)⟩
     simp-implicitDefEqProofs (disch:=omega) only[go_sem];refine a5 (fun cN=>?_) (fun cN=>?_);rotate_left
     . simp-implicitDefEqProofs (disch:=omega) only[go_sem]
       exact dJ gH rfl ⟨rfl,rfl,last fun e=>cN (congrArg (·.2.2.1) e)⟩
     simp-implicitDefEqProofs (disch:=omega) only[go_sem];refine a5 (fun dl=>?_) (fun dl=>?_);rotate_left
     . simp-implicitDefEqProofs (disch:=omega) only[go_sem]
       exact dJ gH rfl ⟨rfl,rfl,last fun e=>dl (congrArg (·.2.2.2) e)⟩
     simp-implicitDefEqProofs (disch:=omega) only[go_sem];exact fF.err _ (by omega)
   rintro vs M ⟨rfl,rfl,jp⟩;simp-implicitDefEqProofs (disch:=omega) only[go_sem,db];exact fF.ok (aEQ HQ jp)
end Go.aL.C
namespace Go.aL.C
open Go.aL
theorem X3{n:Nat}:∀{vs:List V},(∀v∈vs,v.under n=true)->cT n vs=true
 |[],_=>rfl
 |v::vs,h=>by
  simp only[cT,h v (by simp),X3 (vs:=vs) fun w hw=>h w (by simp[hw]),eQ]
theorem Oa{n:Nat}:∀{M:Mem},(∀B∈M,B.under n=true)->cq n M=true
 |[],_=>rfl
 |B::M,h=>by
  simp only[cq,h B (by simp),Oa (M:=M) fun w hw=>h w (by simp[hw]),eQ]
def il(N:Nat)(f:Nat->Int):List (List V):=(c5 N).map fun j=>[.int .i64 (f j)]
def qL(N n:Nat):List V:=(c5 n).map fun i=>.aZ (2*i+1) (N -1) 0 N
def tt(N n:Nat)(W:Nat->Nat->Int)(q:Nat):a1:=if q=0 then .vec (qL N n) n else if q%2=1 then .arr 1 (il N (W (q/2))) (N -1) 0 else .vec [.aZ (q -1) (N -1) 0 N] 0
def fe(N n:Nat)(W:Nat->Nat->Int):Mem:=(c5 (2*n+1)).map (tt N n W)
theorem s8(N:Nat)(f:Nat->Int):(il N f).length=N:=by simp[il]
theorem s7{N j:Nat}(f:Nat->Int)(h:j<N):(il N f)[j]? =some [.int .i64 (f j)]:=by simp[il,h]
theorem W0(N j:Nat)(f:Nat->Int)(x:Int):(il N f).set j [.int .i64 x]=il N (fun b=>if b=j then x else f b):=by
 refine oT fun q=>?_;rw[List.getElem?_set];by_cases aG:q<N
 . rw[s7 _ aG]
   by_cases h:j=q
   . subst h;rw[if_pos rfl,if_pos (by rw[s8];exact aG),s7 _ aG,if_pos rfl]
   . rw[if_neg h,s7 _ aG,if_neg (gq h)]
 . rw[lX (by rw[s8];omega),lX (l:=il N _) (by rw[s8];omega)]
   split
   . rw[if_neg (by rw[s8];omega)]
   . rfl
theorem OK{N:Nat}{f g:Nat->Int}(h:∀j,j<N->f j=g j):il N f=il N g:=by
 refine List.map_congr_left fun j ap=>?_;rw[h j (ka.1 ap)]
theorem AI(N n:Nat):(qL N n).length=n:=by simp[qL]
theorem Oy{N n i:Nat}(h:i<n):(qL N n)[i]? =some (.aZ (2*i+1) (N -1) 0 N):=by simp[qL,h]
theorem im(N n:Nat)(W:Nat->Nat->Int):(fe N n W).length=2*n+1:=by simp[fe]
theorem yG{N n q:Nat}(W:Nat->Nat->Int)(h:q<2*n+1):(fe N n W)[q]? =some (tt N n W q):=by simp[fe,h]
theorem EM(N n:Nat)(W:Nat->Nat->Int):(fe N n W)[0]? =some (.vec (qL N n) n):=yG W (by omega)
theorem EN{N n i:Nat}(W:Nat->Nat->Int)(h:i<n):(fe N n W)[2*i+1]? =some (.arr 1 (il N (W i)) (N -1) 0):=by
 rw[yG W (by omega),tt,if_neg (by omega),if_pos (by omega),show(2*i+1)/2=i by omega]
theorem aPA{N n:Nat}{W V:Nat->Nat->Int}(h:∀i j,i<n->j<N->W i j=V i j):fe N n W=fe N n V:=by
 refine List.map_congr_left fun q aG=>?_;have:=ka.1 aG;simp only[tt];split
 . rfl
 . split
   . rw[OK fun j ap=>h (q/2) j (by omega) ap]
   . rfl
def qS(W:Nat->Nat->Int)(i j:Nat)(x:Int):Nat->Nat->Int:=fun a b=>if a=i/\b=j then x else W a b
theorem XB{N n i j:Nat}(W:Nat->Nat->Int)(x:Int)(h:i<n):(fe N n W).set (2*i+1) (.arr 1 (il N (fun b=>if b=j then x else W i b)) (N -1) 0)=fe N n (qS W i j x):=by
 refine oT fun q=>?_;rw[List.getElem?_set];by_cases aG:q<2*n+1
 . rw[yG _ aG,yG _ aG]
   by_cases af:2*i+1=q
   . rw[if_pos af,if_pos (by rw[im];omega),<-af,tt,if_neg (by omega),if_pos (by omega),show(2*i+1)/2=i by omega]
     congr 2
     refine OK fun b _=>?_;simp[qS]
   . rw[if_neg af]
     simp only[tt];split
     . rfl
     . split
       . congr 2
         refine OK fun b _=>?_;rw[qS,if_neg (by omega)]
       . rfl
 . rw[lX (by rw[im];omega),lX (l:=fe N n (qS W i j x)) (by rw[im];omega),if_neg (by omega)]
theorem aPC(N n:Nat)(W:Nat->Nat->Int):(fe N n W++[a1.arr 1 (il N (W n)) (N -1) 0,.vec [.aZ (2*n+1) (N -1) 0 N] 0]).set 0 (.vec (qL N (n+1)) (n+1))=fe N (n+1) W:=by
 refine oT fun q=>?_;rw[List.getElem?_set];by_cases a8:0=q
 . subst a8
   rw[if_pos rfl,if_pos (by simp),EM]
 . rw[if_neg a8]
   by_cases aa:q<2*n+1
   . rw[gp (by rw[im];exact aa),yG _ aa,yG _ (by omega)]
     simp only[tt,if_neg (gq a8)]
   . rw[j_ (by rw[im];omega),im]
     by_cases af:q=2*n+1
     . subst af
       rw[EN _ (by omega)];simp
     . by_cases az:q=2*n+2
       . subst az
         rw[yG _ (by omega),tt,if_neg (by omega),if_neg (by omega),show 2*n+2 -(2*n+1)=1 by omega];rfl
       . rw[lX (by simp;omega),lX (by rw[im];omega)]
theorem aPB(N n:Nat)(W:Nat->Nat->Int):cq (2*n+1) (fe N n W)=true:=by
 refine Oa fun B bU=>?_;obtain⟨q,aG,rfl⟩:=lr.1 bU;have aG:=ka.1 aG;simp only[tt];split
 . refine X3 fun v aq=>?_
   obtain⟨i,hi,rfl⟩:=lr.1 aq;have:=ka.1 hi;simp[V.under];omega
 . split
   . rfl
   . simp[a1.under,cT,V.under];omega
def eH:Int:=1099511627776
def AM(i:Nat):Nat->V
 |0=>.slice [] .full
 |k+1=>.aZ (2*i+1) k 0 (k+1)
def qQ:Nat->Mem
 |0=>[]
 |k+1=>[.arr 1 (f_ (k+1) [.int .i64 eH]) k 0]
theorem aOu(N i k:Nat)(W:Nat->Nat->Int)(ao:k<=64):dX false 1 8 (AM i k) (.slice [[.int .i64 1099511627776]] .full) (fe N i W++qQ k)=some (AM i (k+1),fe N i W++qQ (k+1)):=by
 cases k with
 |zero=>simp[AM,qQ,dX,eK,g0,fr,im,eH]
 |succ k=>
  have aa:(fe N i W++qQ (k+1))[2*i+1]? =some (.arr 1 (f_ (k+1) [.int .i64 eH]) k 0):=by
   rw[j_ (by rw[im];exact cH _),im,mS];rfl
  have af:decide ((k+1+1)*16<=2^48)=true:=decide_eq_true (by omega);have az:(fe N i W++qQ (k+1)).set (2*i+1) (.arr 1 (f_ (k+1) [.int .i64 eH]++[[.int .i64 1099511627776]]) (k+1) 0)=fe N i W++qQ (k+2):=by
   rw[List.set_append,if_neg (by rw[im];omega),im,mS]
   congr 1
   rw[qQ,qQ,List.set_cons_zero,List.replicate_succ' (n:=k+1)];rfl
  simp only[AM,dX,eK,fr,dC,gY,ee,beq_self_eq_true,cond_true,g0,aa,List.length_replicate,eQ,Nat.reduceMul,af,az]
theorem aOw{N i:Nat}(h:0<N):AM i N=.aZ (2*i+1) (N -1) 0 N:=by
 cases N with
 |zero=>cases h
 |succ k=>rfl
theorem aOt{N:Nat}(h:0<N):qQ N=[.arr 1 (il N fun _=>eH) (N -1) 0]:=by
 cases N with
 |zero=>cases h
 |succ k=>
  have:f_ (k+1) [V.int .i64 eH]=il (k+1) fun _=>eH:=by
   refine oT fun q=>?_;by_cases aG:q<k+1
   . rw[s7 _ aG,List.getElem?_replicate,if_pos aG]
   . rw[lX (by simp;omega),lX (by rw[s8];omega)]
  rw[qQ,this];rfl
theorem aPD(N n:Nat)(aK:n<=64):dX false 1 24 (.aZ 0 n 0 n) (.aZ (2*n+2) 0 0 1) (fe N n (fun _ _=>eH)++[a1.arr 1 (il N fun _=>eH) (N -1) 0]++[a1.vec [.aZ (2*n+1) (N -1) 0 N] 0])=
 some (.aZ 0 (n+1) 0 (n+1),fe N (n+1) fun _ _=>eH):=by
 have e:fe N n (fun _ _=>eH)++[a1.arr 1 (il N fun _=>eH) (N -1) 0]++[a1.vec [.aZ (2*n+1) (N -1) 0 N] 0]=fe N n (fun _ _=>eH)++[.arr 1 (il N fun _=>eH) (N -1) 0,.vec [.aZ (2*n+1) (N -1) 0 N] 0]:=by simp
 rw[e];have aa:(fe N n (fun _ _=>eH)++[a1.arr 1 (il N fun _=>eH) (N -1) 0,.vec [.aZ (2*n+1) (N -1) 0 N] 0])[2*n+2]? =some (.vec [.aZ (2*n+1) (N -1) 0 N] 0):=by
  rw[j_ (by rw[im];omega),im,show 2*n+2 -(2*n+1)=1 by omega];rfl
 have a8:(fe N n (fun _ _=>eH)++[a1.arr 1 (il N fun _=>eH) (N -1) 0,.vec [.aZ (2*n+1) (N -1) 0 N] 0])[0]? =some (.vec (qL N n) n):=by
  rw[gp (by rw[im];omega),EM]
 have af:decide ((n+1)*48<=2^48)=true:=decide_eq_true (by omega);have az:qL N n++[.aZ (2*n+1) (N -1) 0 N]=qL N (n+1):=by simp[qL,List.range_succ]
 have bh:=aPC N n (fun _ _=>eH);simp only[dX,eK,aa,J2,beq_self_eq_true,V.iK,eQ,cond_true,Fp,a8,AI,Nat.reduceMul,af,az,bh]
end Go.aL.C
namespace Go.aL.C
open Go.aL
theorem bY{M:Mem}{i:Nat}{B:a1}(h:M[i]? =some B)(L:Mem):(M++L)[i]? =some B:=by
 rw[gp (bo.1 h).1,h]
theorem jP{α:Type}{M:List α}{n:Nat}(h:M.length=n)(L:List α):(M++L).take n=M:=by
 subst h;simp
def qF(N:Nat)(W:Nat->Nat->Int):V:=.slice ((c5 N).map fun i=>[.slice (il N (W i)) .cx]) .cx
theorem VP{α:Type}{f:V->Option V}{g h:α->V}:∀(l:List α),(∀x∈l,f (g x)=some (h x))->jI f (l.map g)=some (l.map h)
 |[],_=>rfl
 |x::l,ad=>by
  simp only[hY,jI,ad x (by simp),VP l fun y aE=>ad y (by simp[aE])]
theorem Qo{α:Type}{h:α->V}:∀(l:List α),(∀x∈l,(h x).ku=true)->hC (l.map h)=true
 |[],_=>rfl
 |x::l,ad=>by simp only[hY,hC,ad x (by simp),Qo l fun y aE=>ad y (by simp[aE]),eQ]
theorem aGO{M:Mem}{base n id ver start len:Nat}{cells cs:List V}(aj:decide (id<base)=false)(a7:M[id]? =some (.vec cells ver))(ag:start+len<=cells.length)(ar:jI (eY M base n) ((cells.drop start).take len)=some cs)(ay:hC cs=true):
 eY M base (n+1) (.aZ id ver start len)=some (.slice (cs.map fun x=>[x]) .cx):=by
 simp only[eY,aj,cond_false,a7,beq_self_eq_true,decide_eq_true ag,eQ,cond_true,ar,ay]
theorem zx{M:Mem}{base n id ver start len sz fz:Nat}{rows:List (List V)}(aj:decide (id<base)=false)(a7:M[id]? =some (.arr sz rows ver fz))(ag:start+len<=rows.length):
 eY M base (n+1) (.aZ id ver start len)=some (.slice ((rows.drop start).take len) .cx):=by
 simp only[eY,aj,cond_false,a7,beq_self_eq_true,decide_eq_true ag,eQ,cond_true]
theorem aPF(N:Nat)(W:Nat->Nat->Int):eY (fe N N W) 0 20 (.aZ 0 N 0 N)=some (qF N W):=by
 have aa:jI (eY (fe N N W) 0 19) (((qL N N).drop 0).take N)=some ((c5 N).map fun i=>.slice (il N (W i)) .cx):=by
  rw[lW,g_ (by rw[AI];omega)];refine VP _ fun i hi=>?_;have hi:=ka.1 hi;have e:((il N (W i)).drop 0).take N=il N (W i):=by rw[lW,g_ (by rw[s8];omega)]
  have:=zx (M:=fe N N W) (base:=0) (n:=18) (len:=N) (start:=0) (by simp) (EN W hi) (by rw[s8];omega);rw[e] at this;exact this
 have:=aGO (n:=19) (M:=fe N N W) (base:=0) (by simp) (EM N N W) (by rw[AI];omega) aa (Qo _ fun _ _=>rfl);rw[List.map_map] at this;exact this
theorem aPH{N i j:Nat}(W:Nat->Nat->Int)(h:i<N)(x:Int)(L:Mem):(fe N N W++L).set (2*i+1) (.arr 1 ((il N (W i)).set j [.int .i64 x]) (N -1) 0)=fe N N (qS W i j x)++L:=by
 rw[W0,List.set_append,if_pos (by rw[im];omega),XB W x h]
theorem aPG{N i j:Nat}(W:Nat->Nat->Int)(h:i<N)(x:Int):(fe N N W).set (2*i+1) (.arr 1 ((il N (W i)).set j [.int .i64 x]) (N -1) 0)=fe N N (qS W i j x):=by
 rw[W0,XB W x h]
theorem O7{N:Nat}{W:Nat->Nat->Int}{vs:List V}(L:Mem)(h:cT (2*N+1) vs=true):hT (2*N+1) vs (fe N N W++L)=true:=by
 have aa:2*N+1<=(fe N N W++L).length:=by rw[dz,im];omega
 simp only[hT,h,decide_eq_true aa,jP (im N N W) L,aPB,eQ]
def Path.j2(p:Path)(N:Nat):Prop:=(0<=p.src/\p.src<N)/\(0<=p.dst/\p.dst<N)/\1<=p.dL/\p.dL<=14400
structure oX(l:List Path)(N:Nat)(free:Bool)(W:Nat->Nat->Int):Prop where
 rm:∀p∈l,(free=true->p.free=true)->W p.src.toNat p.dst.toNat<=p.dL
 wm:∀i j m,i<N->j<N->m<N->W i j<=W i m+W m j
 qK:∀D:Nat->Int,(∀i,i<N->0<=D i/\D i<=eH)->(∀p∈l,(free=true->p.free=true)->D p.dst.toNat<=D p.src.toNat+p.dL)->∀i j,i<N->j<N->D j -D i<=W i j
 kA:∀i j,i<N->j<N->0<W i j/\W i j<=eH
structure yZ(l:List Path)(N:Nat)(free:Bool)(k:Nat)(W:Nat->Nat->Int):Prop where
 rm:∀(i:Nat)(p:Path),i<k->l[i]? =some p->(free=true->p.free=true)->W p.src.toNat p.dst.toNat<=p.dL
 qK:∀D:Nat->Int,(∀i,i<N->0<=D i/\D i<=eH)->(∀p∈l,(free=true->p.free=true)->D p.dst.toNat<=D p.src.toNat+p.dL)->∀i j,i<N->j<N->D j -D i<=W i j
 kA:∀i j,i<N->j<N->0<W i j/\W i j<=eH
theorem aDL{l:List Path}{N k:Nat}{free:Bool}{W:Nat->Nat->Int}{p:Path}(h:yZ l N free k W)(ay:l[k]? =some p)(aD:¬(free=true->p.free=true)):yZ l N free (k+1) W:=
 ⟨fun i q hi aG vo=>by
   rcases ju.1 hi with aa|aa
   . exact h.rm i q aa aG vo
   . subst aa;rw[ay] at aG;cases aG;exact absurd vo aD,h.qK,h.kA⟩
theorem RO{l:List Path}{N k:Nat}{free:Bool}{W:Nat->Nat->Int}{p:Path}(h:yZ l N free k W)(ay:l[k]? =some p)(aD:free=true->p.free=true)(hi:p.j2 N):
 yZ l N free (k+1) (qS W p.src.toNat p.dst.toNat (min (W p.src.toNat p.dst.toNat) p.dL)):=by
 obtain⟨aa,af,az,bh⟩:=hi;refine⟨fun i q hi aG vo=>?_,fun D d4 i2 i j hi ap=>?_,fun i j hi ap=>?_⟩
 . unfold qS
   split
   . rename_i e
     rcases ju.1 hi with bC|bC
     . have:=h.rm i q bC aG vo
       rw[e.1,e.2] at this;omega
     . subst bC;rw[ay] at aG;cases aG;omega
   . rename_i e
     rcases ju.1 hi with bC|bC
     . exact h.rm i q bC aG vo
     . subst bC;rw[ay] at aG;cases aG;exact absurd ⟨rfl,rfl⟩ e
 . have:=h.qK D d4 i2 i j hi ap
   unfold qS;split
   . rename_i e
     have:=i2 p (dQ ay) aD;rw[<-e.1,<-e.2] at this⊢;omega
   . exact this
 . have:=h.kA i j hi ap
   unfold qS;split
   . rename_i e
     rw[<-e.1,<-e.2];simp only[eH] at*;omega
   . exact this
def jc(W:Nat->Nat->Int)(k i j:Nat):Nat->Nat->Int:=fun a b=>if a<i∨(a=i/\b<j) then min (W a b) (W a k+W k b) else W a b
theorem aNk{W:Nat->Nat->Int}{k N:Nat}(h:∀i j,i<N->j<N->0<W i j/\W i j<=eH)(ao:k<N)(i j:Nat){a:Nat}(a9:a<N):jc W k i j a k=W a k:=by
 have:=(h k k ao ao).1;unfold jc;split<;>omega
theorem aNn{W:Nat->Nat->Int}{k N:Nat}(h:∀i j,i<N->j<N->0<W i j/\W i j<=eH)(ao:k<N)(i j:Nat){b:Nat}(aj:b<N):jc W k i j k b=W k b:=by
 have:=(h k k ao ao).1;unfold jc;split<;>omega
theorem aNj(W:Nat->Nat->Int)(k i j:Nat):jc W k i j i j=W i j:=by
 unfold jc;rw[if_neg (by omega)]
theorem aNm(W:Nat->Nat->Int)(k i j:Nat):qS (jc W k i j) i j (min (W i j) (W i k+W k j))=jc W k i (j+1):=by
 funext a b;unfold qS jc;by_cases h:a=i/\b=j
 . obtain⟨rfl,rfl⟩:=h
   rw[if_pos ⟨rfl,rfl⟩,if_pos (by omega)]
 . rw[if_neg h]
   by_cases af:a<i∨(a=i/\b<j)
   . rw[if_pos af,if_pos (by omega)]
   . rw[if_neg af,if_neg (by omega)]
theorem aNo(W:Nat->Nat->Int)(k:Nat):jc W k 0 0=W:=by
 funext a b;unfold jc;rw[if_neg (by omega)]
theorem aNl{N:Nat}(W:Nat->Nat->Int)(k i:Nat):∀a b,a<N->b<N->jc W k i N a b=jc W k (i+1) 0 a b:=fun a b _ aj=>by
 unfold jc;by_cases af:a<i∨(a=i/\b<N)
 . rw[if_pos af,if_pos (by omega)]
 . rw[if_neg af,if_neg (by omega)]
structure E1(l:List Path)(N:Nat)(free:Bool)(k:Nat)(W:Nat->Nat->Int):Prop where
 rm:∀p∈l,(free=true->p.free=true)->W p.src.toNat p.dst.toNat<=p.dL
 wm:∀i j m,i<N->j<N->m<k->W i j<=W i m+W m j
 qK:∀D:Nat->Int,(∀i,i<N->0<=D i/\D i<=eH)->(∀p∈l,(free=true->p.free=true)->D p.dst.toNat<=D p.src.toNat+p.dL)->∀i j,i<N->j<N->D j -D i<=W i j
 kA:∀i j,i<N->j<N->0<W i j/\W i j<=eH
theorem aDN{l:List Path}{N k:Nat}{free:Bool}{W:Nat->Nat->Int}(eN:∀p∈l,p.j2 N)(h:E1 l N free k W)(ao:k<N):E1 l N free (k+1) (jc W k N 0):=by
 have e:∀a b,a<N->jc W k N 0 a b=min (W a b) (W a k+W k b):=fun a b a9=>by unfold jc;rw[if_pos (.inl a9)]
 refine⟨fun p ay aD=>?_,fun i j m hi ap hm=>?_,fun D d4 i2 i j hi ap=>?_,fun i j hi ap=>?_⟩
 . have:=h.rm p ay aD
   obtain⟨aa,_⟩:=eN p ay;rw[e _ _ (by omega)];omega
 . have De:=(h.kA k k ao ao).1
   have Dk:m<N:=by omega
   rw[e _ _ hi,e _ _ hi,e _ _ Dk];rcases ju.1 hm with hm|rfl
   . have t1:=h.wm i j m hi ap hm
     have t2:=h.wm i k m hi ao hm;have t3:=h.wm k j m ao ap hm;have t4:=(h.kA k m ao Dk).1;have t5:=(h.kA m k Dk ao).1;omega
   . omega
 . have t1:=h.qK D d4 i2 i j hi ap
   have t2:=h.qK D d4 i2 i k hi ao;have t3:=h.qK D d4 i2 k j ao ap;rw[e _ _ hi];omega
 . have t1:=h.kA i j hi ap
   have t2:=h.kA i k hi ao;have t3:=h.kA k j ao ap;rw[e _ _ hi];omega
end Go.aL.C
namespace Go.aL.C
open Go.aL
theorem aPE(N n:Nat)(aK:n<=64):dX false 1 24 (.aZ 0 n 0 n) (.aZ (2*n+1+1) 0 0 1) (fe N n (fun _ _=>eH)++[a1.arr 1 (il N fun _=>eH) (N -1) 0]++[a1.vec [.aZ (2*n+1) (N -1) 0 N] 0])=
 some (.aZ 0 (n+1) 0 (n+1),fe N (n+1) fun _ _=>eH):=aPD N n aK
theorem eT{α:Type}(M L:List α):(M++L)[M.length]? =L[0]? :=by
 rw[j_ (by omega),mS]
theorem aDM(l:List Path)(N:Nat)(free:Bool):yZ l N free 0 (fun _ _=>eH):=
 ⟨fun i p hi=>absurd hi (e8 _),fun D d4 _ i j hi ap=>by have:=d4 i hi;have:=d4 j ap;omega,fun i j _ _=>by simp only[eH];omega⟩
theorem WL(l:List Path)(c:c4)(N:Nat)(free:Bool)(dc:N<=64)(ag:∀p∈l,p.j2 N)(hlen:l.length<=maxLen):
 bT au D9 [.slice (l.map Path.row) c,.int .i64 N,.bool free] (fun v=>∃W,v=qF N W/\oX l N free W):=by
 have hm:maxLen=9223372036854775807:=by rfl
 refine bP aGw (by simp[Hb]) ?_;have fY:fe N 0 (fun _ _=>eH)=[a1.vec [] 0]:=rfl;simp-implicitDefEqProofs (disch:=omega) only[go_sem,Hb,wT];refine ge N (fun i vs M=>vs=[.slice (l.map Path.row) c,.int .i64 N,.bool free,.aZ 0 i 0 i,.int .i64 i]/\M=fe N i fun _ _=>eH) ⟨rfl,rfl⟩ ?_ ?_
 . rintro i vs M hi aw ⟨rfl,rfl⟩
   have a8:0<N:=by omega
   simp-implicitDefEqProofs (disch:=omega) only[go_sem,aw];refine ge N (fun k vs M=>vs=[.slice (l.map Path.row) c,.int .i64 N,.bool free,.aZ 0 i 0 i,.int .i64 i,AM i k,.int .i64 k]/\M=(fe N i fun _ _=>eH)++qQ k) ⟨rfl,by simp[qQ]⟩ ?_ ?_
   . rintro k vs M ao fi ⟨rfl,rfl⟩
     have a9:=aOu N i k (fun _ _=>eH) (by omega);simp-implicitDefEqProofs (disch:=omega) only[go_sem,fi,a9];exact cS ao ⟨rfl,rfl⟩
   rintro vs M ⟨rfl,rfl⟩;have a9:=aPE N i (by omega);simp-implicitDefEqProofs (disch:=omega) only[go_sem,db,aOw a8,aOt a8,wT,im,a9];exact cS hi ⟨rfl,rfl⟩
 rintro vs M ⟨rfl,rfl⟩;simp-implicitDefEqProofs (disch:=omega) only[go_sem,db];refine ej l (fun i vs M=>∃W,yZ l N free i W/\vs=[.slice (l.map Path.row) c,.int .i64 N,.bool free,.aZ 0 N 0 N,.int .i64 i]/\M=fe N N W) ⟨_,aDM l N free,rfl,rfl⟩ ?_ ?_
 . rintro i p vs M ay hi aw ⟨W,ez,rfl,rfl⟩
   have eN:=ag p (dQ ay);obtain⟨⟨aa,af⟩,⟨az,bh⟩,bC,ca⟩:=eN;have fp:=fun L=>bY (EM N N W) L;have bW:=fun L=>bY (EN (N:=N) W (show p.src.toNat<N by omega)) L;have b8:=Oy (N:=N) (show p.src.toNat<N by omega);have cN:=s7 (W p.src.toNat) (show p.dst.toNat<N by omega);have dl:=aPH (N:=N) (j:=p.dst.toNat) W (show p.src.toNat<N by omega);have e2:decide (p.src.toNat<N)=true:=decide_eq_true (by omega);have fV:decide (p.dst.toNat<N)=true:=decide_eq_true (by omega);have jx:∀L:Mem,(fe N N W++L)[2*N+1]? =L[0]? :=fun L=>by
    have:=eT (fe N N W) L;rwa [im] at this
   have n8:∀(L:Mem)(x:a1),(fe N N W++L).set (2*N+1) x=fe N N W++L.set 0 x:=fun L x=>by
    rw[List.set_append,if_neg (by rw[im];omega),im,mS]
   simp-implicitDefEqProofs (disch:=omega) only[go_sem,aw,ay,Path.row,im,jx,n8];refine ck (fun aT=>?_) (fun aT=>?_)
   . simp-implicitDefEqProofs (disch:=omega) only[go_sem,fp,bW,b8,cN,dl,e2,fV,jx,AI,s8,im]
     refine dJ hi (O7 _ (by simp[dr,aX,cT,V.under])) ⟨_,RO ez ay (fun _=>aT) ⟨⟨aa,af⟩,⟨az,bh⟩,bC,ca⟩,rfl,?_⟩;exact jP (im _ _ _) _
   simp-implicitDefEqProofs (disch:=omega) only[go_sem];refine ck (fun a2=>?_) (fun a2=>?_)
   . simp-implicitDefEqProofs (disch:=omega) only[go_sem,im]
     refine dJ hi (O7 _ (by simp[dr,aX,cT,V.under])) ⟨_,aDL ez ay (fun e=>by rw[e a2] at aT;cases aT),rfl,?_⟩;exact jP (im _ _ _) _
   simp-implicitDefEqProofs (disch:=omega) only[go_sem,fp,bW,b8,cN,dl,e2,fV,jx,AI,s8,im];refine dJ hi (O7 _ (by simp[dr,aX,cT,V.under])) ⟨_,RO ez ay (fun e=>by rw[a2] at e;cases e) ⟨⟨aa,af⟩,⟨az,bh⟩,bC,ca⟩,rfl,?_⟩;exact jP (im _ _ _) _
 rintro vs M ⟨P7,MH,rfl,rfl⟩;have m2:E1 l N free 0 P7:=⟨fun p ay aD=>by
  obtain⟨i,hi⟩:=ir ay;exact MH.rm i p (bo.1 hi).1 hi aD,fun i j m _ _ hm=>absurd hm (e8 _),MH.qK,MH.kA⟩;simp-implicitDefEqProofs (disch:=omega) only[go_sem,db];refine ge N (fun k vs M=>∃W,E1 l N free k W/\vs=[.int .i64 N,.aZ 0 N 0 N,.int .i64 k]/\M=fe N N W) ⟨P7,m2,rfl,rfl⟩ ?_ ?_;rotate_left
 . rintro vs M ⟨W,ez,rfl,rfl⟩
   simp-implicitDefEqProofs (disch:=omega) only[go_sem,db];show kZ (eY (fe N N W) 0 20 (.aZ 0 N 0 N)) _;rw[aPF];exact⟨by simp[qF,V.under,cq],⟨W,rfl,ez.rm,fun i j m hi ap hm=>ez.wm i j m hi ap hm,ez.qK,ez.kA⟩,by simp,rfl⟩
 rintro k vs M ao fi ⟨W,ez,rfl,rfl⟩;simp-implicitDefEqProofs (disch:=omega) only[go_sem,fi];refine ge N (fun i vs M=>vs=[.int .i64 N,.aZ 0 N 0 N,.int .i64 k,.int .i64 i]/\M=fe N N (jc W k i 0)) ⟨rfl,by rw[aNo]⟩ ?_ ?_;rotate_left
 . rintro vs M ⟨rfl,rfl⟩
   simp-implicitDefEqProofs (disch:=omega) only[go_sem,db];exact cS ao ⟨_,aDN ag ez ao,rfl,rfl⟩
 rintro i vs M hi ba ⟨rfl,rfl⟩;simp-implicitDefEqProofs (disch:=omega) only[go_sem,ba];refine ge N (fun j vs M=>vs=[.int .i64 N,.aZ 0 N 0 N,.int .i64 k,.int .i64 i,.int .i64 j]/\M=fe N N (jc W k i j)) ⟨rfl,rfl⟩ ?_ ?_;rotate_left
 . rintro vs M ⟨rfl,rfl⟩
   simp-implicitDefEqProofs (disch:=omega) only[go_sem,db];refine cS hi ⟨rfl,aPA fun a b a9 aj=>aNl W k i a b a9 aj⟩
 rintro j vs M ap lJ ⟨rfl,rfl⟩;have fp:=EM N N (jc W k i j);have bW:=EN (N:=N) (jc W k i j) hi;have Le:=EN (N:=N) (jc W k i j) ao;have b8:=Oy (N:=N) hi;have abj:=Oy (N:=N) ao;have cN:=s7 (jc W k i j i) ap;have abk:=s7 (jc W k i j i) ao;have abl:=s7 (jc W k i j k) ap;have dl:=aPG (N:=N) (j:=j) (jc W k i j) hi;have e2:decide (i<N)=true:=decide_eq_true hi;have fV:decide (j<N)=true:=decide_eq_true ap;have jx:decide (k<N)=true:=decide_eq_true ao;have a4:=aNk ez.kA ao i j hi;have bd:=aNn ez.kA ao i j ap;have e3:=aNj W k i j;have c2:=ez.kA i k hi ao;have dw:=ez.kA k j ao ap;simp only[eH] at c2 dw;simp-implicitDefEqProofs (disch:=omega) only[go_sem,lJ,fp,bW,Le,b8,abj,cN,abk,abl,dl,e2,fV,jx,AI,s8,a4,bd,e3];refine cS ap ⟨rfl,?_⟩;rw[aNm]
end Go.aL.C
namespace Go.aL.C
open Go.aL
def k4(W F:Nat->Nat->Int)(i k:Nat):List Path:=
 if i=k∨14400<W i k then[] else⟨i,k,W i k,decide (F i k=W i k)⟩::(if W i k<F i k/\F i k<=14400 then[⟨i,k,F i k,true⟩] else[])
def lb(W F:Nat->Nat->Int)(i n:Nat):List Path:=(c5 n).flatMap (k4 W F i)
def gt(W F:Nat->Nat->Int)(N n:Nat):List Path:=(c5 n).flatMap fun i=>lb W F i N
theorem aC2(W F:Nat->Nat->Int)(i k:Nat):(k4 W F i k).length<=2:=by
 unfold k4;split
 . simp
 . split<;>simp
theorem Mj{α:Type}{f:Nat->List α}{b:Nat}(h:∀i,(f i).length<=b):∀n,((c5 n).flatMap f).length<=n*b
 |0=>by simp
 |n+1=>by
  have:=Mj h n;have:=h n;rw[List.range_succ,List.flatMap_append,dz];simp only[List.flatMap_cons,List.flatMap_nil,fA,Nat.succ_mul];omega
theorem pG(W F:Nat->Nat->Int)(i n:Nat):lb W F i (n+1)=lb W F i n++k4 W F i n:=by simp[lb,List.range_succ]
theorem LM(W F:Nat->Nat->Int)(N n:Nat):gt W F N (n+1)=gt W F N n++lb W F n N:=by simp[gt,List.range_succ]
theorem JR(W F:Nat->Nat->Int)(i n:Nat):(lb W F i n).length<=n*2:=Mj (aC2 W F i) n
theorem Rw(W F:Nat->Nat->Int)(N n:Nat)(dc:N<=64):(gt W F N n).length<=n*128:=
 Mj (fun i=>kb (JR W F i N) (by omega)) n
theorem VX{N i:Nat}(W:Nat->Nat->Int)(h:i<N):((c5 N).map fun i=>[V.slice (il N (W i)) .cx])[i]? =some [.slice (il N (W i)) .cx]:=by simp[h]
def v7(l:List Path)(ver:Nat):V:=match l with|[]=>.slice [] .full|_::_=>.aZ 0 ver 0 l.length
def uu(l:List Path)(ver:Nat):Mem:=match l with|[]=>[]|_::_=>[.arr 4 (l.map Path.row) ver 0]
theorem Wi(l:List Path)(ver:Nat)(p:Path)(ag:l.length<=100000):∃lk,dX false 4 32 (v7 l ver) (.slice [[.int .i64 p.src,.int .i64 p.dst,.int .i64 p.dL,.bool p.free]] .full) (uu l ver)=some (v7 (l++[p]) lk,uu (l++[p]) lk):=by
 cases l with
 |nil=>exact⟨0,by simp[v7,uu,dX,eK,g0,fr,Path.row]⟩
 |cons q l=>
  refine⟨ver+1,?_⟩;have af:decide ((l.length+1+1)*64<=2^48)=true:=decide_eq_true (by simp only[dC] at ag;omega);simp only[v7,uu,dX,eK,fr,dC,gY,ee,beq_self_eq_true,cond_true,g0,ji,eu,eQ,Nat.reduceMul,af,List.set_cons_zero,List.cons_append,dz,hY,List.map_append,lq,Path.row]
theorem aNY(l:List Path)(c:c4)(N:Nat)(dc:N<=64)(ag:∀p∈l,p.j2 N)(hlen:l.length<=maxLen):
 bT au Jw [.slice (l.map Path.row) c,.int .i64 N] (fun v=>∃W F cK,v=.slice ((gt W F N N).map Path.row) cK/\oX l N false W/\oX l N true F):=by
 have hm:maxLen=9223372036854775807:=by rfl
 refine bP aGu (by simp[G_]) ?_;simp-implicitDefEqProofs (disch:=omega) only[go_sem,G_];refine fw (WL l c N false dc ag hlen) ?_;rintro v ⟨W,rfl,ez⟩;simp-implicitDefEqProofs (disch:=omega) only[go_sem];refine fw (WL l c N true dc ag hlen) ?_;rintro v ⟨G,rfl,gk⟩;simp-implicitDefEqProofs (disch:=omega) only[go_sem];refine ge N (fun i vs M=>∃ver,vs=[.int .i64 N,qF N W,qF N G,v7 (gt W G N i) ver,.int .i64 i]/\M=uu (gt W G N i) ver) ⟨0,rfl,rfl⟩ ?_ ?_;rotate_left
 . rintro vs M ⟨ver,rfl,rfl⟩
   simp-implicitDefEqProofs (disch:=omega) only[go_sem,db];rw[aDU];show kZ (eY (uu (gt W G N N) ver) 0 20 (v7 (gt W G N N) ver)) _;have m1:∃cK,eY (uu (gt W G N N) ver) 0 20 (v7 (gt W G N N) ver)=some (.slice ((gt W G N N).map Path.row) cK):=by
    cases gt W G N N with
    |nil=>exact⟨.full,rfl⟩
    |cons q r=>
     refine⟨.cx,?_⟩;have:=zx (M:=uu (q::r) ver) (base:=0) (n:=19) (id:=0) (ver:=ver) (start:=0) (len:=(q::r).length) (rows:=(q::r).map Path.row) (sz:=4) (fz:=0) rfl rfl (by simp);rw[lW,g_ (by simp)] at this;exact this
   obtain⟨cK,m1⟩:=m1;rw[m1];exact⟨by simp[V.under,cq],⟨W,G,cK,rfl,ez,gk⟩,by simp,rfl⟩
 rintro i vs M hi ba ⟨ver,rfl,rfl⟩;have dg:=Rw W G N i dc;simp-implicitDefEqProofs (disch:=omega) only[go_sem,ba];refine ge N (fun k vs M=>∃ver,vs=[.int .i64 N,qF N W,qF N G,v7 (gt W G N i++lb W G i k) ver,.int .i64 i,.int .i64 k]/\M=uu (gt W G N i++lb W G i k) ver) ⟨ver,by simp[lb,dr,aX],by simp[lb]⟩ ?_ ?_;rotate_left
 . rintro vs M ⟨ver,rfl,rfl⟩
   simp-implicitDefEqProofs (disch:=omega) only[go_sem,db];refine cS hi ⟨ver,?_,?_⟩
   . rw[LM];rfl
   . rw[LM]
 rintro k vs M ao fi ⟨ver,rfl,rfl⟩;have pp:=JR W G i k;have bW:=VX (N:=N) W hi;have b8:=VX (N:=N) G hi;have cN:=s7 (W i) ao;have dl:=s7 (G i) ao;have aLu:(gt W G N i++lb W G i k).length<=100000:=by rw[dz];omega
 simp-implicitDefEqProofs (disch:=omega) only[go_sem,fi,qF];refine a5 (fun aT=>?_) (fun aT=>?_)
 . have e:k4 W G i k=[]:=by rw[k4,if_pos (.inl (by omega))]
   simp-implicitDefEqProofs (disch:=omega) only[go_sem];refine cS ao ⟨ver,?_,?_⟩
   . rw[pG,e,fA];rfl
   . rw[pG,e,fA]
 have i6:¬i=k:=by omega
 simp-implicitDefEqProofs (disch:=omega) only[go_sem,bW,cN,qF];refine a5 (fun a2=>?_) (fun a2=>?_)
 . have e:k4 W G i k=[]:=by rw[k4,if_pos (.inr (by omega))]
   simp-implicitDefEqProofs (disch:=omega) only[go_sem];refine cS ao ⟨ver,?_,?_⟩
   . rw[pG,e,fA];rfl
   . rw[pG,e,fA]
 have a4:∀r,(if W i k<G i k/\G i k<=14400 then[(⟨i,k,G i k,true⟩:Path)] else[])=r->k4 W G i k=⟨i,k,W i k,decide (G i k=W i k)⟩::r:=fun r an=>by
  rw[k4,if_neg (by omega),an]
 obtain⟨Pm,aa⟩:=Wi (gt W G N i++lb W G i k) ver ⟨i,k,W i k,decide (G i k=W i k)⟩ aLu;simp only at aa;simp-implicitDefEqProofs (disch:=omega) only[go_sem,bW,b8,cN,dl,qF,aa];refine a5 (fun bJ=>?_) (fun bJ=>?_);rotate_left
 . have e:=a4 [] (by rw[if_neg (by omega)])
   simp-implicitDefEqProofs (disch:=omega) only[go_sem];refine cS ao ⟨Pm,?_,?_⟩
   . rw[pG,e,<-en];rfl
   . rw[pG,e,<-en]
 simp-implicitDefEqProofs (disch:=omega) only[go_sem,b8,dl,qF];refine a5 (fun c8=>?_) (fun c8=>?_);rotate_left
 . have e:=a4 [] (by rw[if_neg (by omega)])
   simp-implicitDefEqProofs (disch:=omega) only[go_sem];refine cS ao ⟨Pm,?_,?_⟩
   . rw[pG,e,<-en];rfl
   . rw[pG,e,<-en]
 have e:=a4 [⟨i,k,G i k,true⟩] (by rw[if_pos ⟨by omega,by omega⟩]);obtain⟨iQ,af⟩:=Wi (gt W G N i++lb W G i k++[⟨i,k,W i k,decide (G i k=W i k)⟩]) Pm ⟨i,k,G i k,true⟩ (by rw[dz,dz];simp;omega);simp only at af;simp-implicitDefEqProofs (disch:=omega) only[go_sem,b8,dl,qF,af];refine cS ao ⟨iQ,?_,?_⟩
 . rw[pG,e];simp[dr,aX]
 . rw[pG,e];simp
end Go.aL.C
namespace Go.aL.C
open Go.aL
def K9(l:List Path)(N:Nat)(i:Nat)(p:Path):Prop:=p.j2 N/\p.src≠p.dst/\∀(k:Nat)(o:Path),k<i->l[k]? =some o->¬(o.src=p.src/\o.dst=p.dst/\o.free=p.free)
def q7(l:List Path)(N:Nat):Prop:=∀(i:Nat)(p:Path),l[i]? =some p->K9 l N i p
def uN(l:List Path)(N:Nat):Prop:=∃W F,oX l N false W/\oX l N true F/\l=gt W F N N
theorem aOv{p q:Path}(h:(decide (p.src=q.src)&&(decide (p.dst=q.dst)&&(decide (p.dL=q.dL)&&(decide (p.free=q.free)&&true))))=true):p=q:=by
 simp only[cc,decide_eq_true_eq,and_true] at h;cases p;cases q;simp only[Path.mk.injEq];exact h
theorem aN4(n:Net)(aK:n.wf)(dc:n.stops.length<=64):bT au JB [.agg n.row] (ga (q7 n.paths n.stops.length/\uN n.paths n.stops.length)):=by
 have hm:maxLen=9223372036854775807:=by rfl
 have mb:=aK.paths.2;refine bP aGD (by simp[Hi]) ?_;simp-implicitDefEqProofs (disch:=omega) only[go_sem,Hi];refine ej n.paths (fun i vs M=>vs=[.ptr 0 0,.int .i64 i]/\M=[.box n.row]/\∀(j:Nat)(p:Path),j<i->n.paths[j]? =some p->K9 n.paths n.stops.length j p) ⟨rfl,rfl,fun j p ap=>absurd ap (e8 _)⟩ ?_ ?_
 . rintro i p vs M ay hi aw ⟨rfl,rfl,H⟩
   simp-implicitDefEqProofs (disch:=omega) only[go_sem,aw,ay,Net.row,Path.row];first|refine b1 (gn _ _ _) ?_|refine bV (gn _ _ _) ?_
   simp-implicitDefEqProofs (disch:=omega) only[go_sem];refine ck (fun aT=>?_) (fun aT=>?_);rotate_left
   . simp-implicitDefEqProofs (disch:=omega) only[go_sem]
     exact ga.err _ _ (by omega)
   rw[within_iff] at aT;simp-implicitDefEqProofs (disch:=omega) only[go_sem];first|refine b1 (gn _ _ _) ?_|refine bV (gn _ _ _) ?_
   simp-implicitDefEqProofs (disch:=omega) only[go_sem];refine ck (fun a2=>?_) (fun a2=>?_);rotate_left
   . simp-implicitDefEqProofs (disch:=omega) only[go_sem]
     exact ga.err _ _ (by omega)
   rw[within_iff] at a2;simp-implicitDefEqProofs (disch:=omega) only[go_sem];refine a5 (fun bJ=>?_) (fun bJ=>?_)
   . simp-implicitDefEqProofs (disch:=omega) only[go_sem]
     exact ga.err _ _ (by omega)
   simp-implicitDefEqProofs (disch:=omega) only[go_sem];first|refine b1 (gn _ _ _) ?_|refine bV (gn _ _ _) ?_
   simp-implicitDefEqProofs (disch:=omega) only[go_sem];refine ck (fun c8=>?_) (fun c8=>?_);rotate_left
   . simp-implicitDefEqProofs (disch:=omega) only[go_sem]
     exact ga.err _ _ (by omega)
   rw[within_iff] at c8;simp-implicitDefEqProofs (disch:=omega) only[go_sem];refine ge i (fun k vs M=>vs=[.ptr 0 0,.int .i64 i,.ptr 1 0,.int .i64 k]/\M=[.box n.row,.box p.row]/\∀(j:Nat)(o:Path),j<k->n.paths[j]? =some o->¬(o.src=p.src/\o.dst=p.dst/\o.free=p.free)) ⟨rfl,rfl,fun j o ap=>absurd ap (e8 _)⟩ ?_ ?_
   . rintro k vs M ao fi ⟨rfl,rfl,h9⟩
     obtain⟨o,aA⟩:∃o,n.paths[k]? =some o:=⟨n.paths[k],by simp⟩;have last:¬(o.src=p.src/\o.dst=p.dst/\o.free=p.free)->∀(j:Nat)(o:Path),j<k+1->n.paths[j]? =some o->¬(o.src=p.src/\o.dst=p.dst/\o.free=p.free):=fun cD j x ap ad=>by
      rcases ju.1 ap with h|h
      . exact h9 j x h ad
      . subst h;rw[aA] at ad;cases ad;exact cD
     simp-implicitDefEqProofs (disch:=omega) only[go_sem,fi,aA,Net.row,Path.row];refine a5 (fun bW=>?_) (fun bW=>?_);rotate_left
     . simp-implicitDefEqProofs (disch:=omega) only[go_sem]
       exact dJ ao rfl ⟨rfl,rfl,last fun e=>bW e.1⟩
     simp-implicitDefEqProofs (disch:=omega) only[go_sem];refine a5 (fun b8=>?_) (fun b8=>?_);rotate_left
     . simp-implicitDefEqProofs (disch:=omega) only[go_sem]
       exact dJ ao rfl ⟨rfl,rfl,last fun e=>b8 e.2.1⟩
     simp-implicitDefEqProofs (disch:=omega) only[go_sem];refine a5 (fun cN=>?_) (fun cN=>?_);rotate_left
     . simp-implicitDefEqProofs (disch:=omega) only[go_sem]
       exact dJ ao rfl ⟨rfl,rfl,last fun e=>cN e.2.2⟩
     simp-implicitDefEqProofs (disch:=omega) only[go_sem];exact ga.err _ _ (by omega)
   rintro vs M ⟨rfl,rfl,h9⟩;simp-implicitDefEqProofs (disch:=omega) only[go_sem,db];refine dJ hi rfl ⟨rfl,rfl,fun j o ap aA=>?_⟩;rcases ju.1 ap with h|h
   . exact H j o h aA
   . subst h;rw[ay] at aA;cases aA
     exact⟨⟨⟨by omega,by omega⟩,⟨by omega,by omega⟩,c8⟩,bJ,h9⟩
 rintro vs M ⟨rfl,rfl,H⟩;have U4:q7 n.paths n.stops.length:=fun i p ay=>H i p (bo.1 ay).1 ay;have eN:∀p∈n.paths,p.j2 n.stops.length:=fun p ay=>by
  obtain⟨i,hi⟩:=ir ay;exact(U4 i p hi).1
 simp-implicitDefEqProofs (disch:=omega) only[go_sem,db,Net.row];refine fw (aNY n.paths n.qI n.stops.length dc eN mb) ?_;rintro v ⟨W,G,cK,rfl,ez,gk⟩;simp-implicitDefEqProofs (disch:=omega) only[go_sem];refine a5 (fun eI=>?_) (fun eI=>?_);rotate_left
 . simp-implicitDefEqProofs (disch:=omega) only[go_sem]
   exact ga.err _ _ (by omega)
 have hlen:(gt W G n.stops.length n.stops.length).length=n.paths.length:=by omega
 simp-implicitDefEqProofs (disch:=omega) only[go_sem];refine ej (gt W G n.stops.length n.stops.length) (fun i vs M=>vs=[.ptr 0 0,.slice ((gt W G n.stops.length n.stops.length).map Path.row) cK,.int .i64 i]/\M=[.box n.row]/\∀j,j<i->(gt W G n.stops.length n.stops.length)[j]? =n.paths[j]?) ⟨rfl,rfl,fun j ap=>absurd ap (e8 _)⟩ ?_ ?_;rotate_left
 . rintro vs M ⟨rfl,rfl,lZ⟩
   simp-implicitDefEqProofs (disch:=omega) only[go_sem,db];refine ga.ok _ ⟨U4,W,G,ez,gk,?_⟩;refine oT fun j=>?_;by_cases ap:j<(gt W G n.stops.length n.stops.length).length
   . exact(lZ j ap).symm
   . rw[lX (by omega),lX (by omega)]
 rintro i q vs M aG hi aw ⟨rfl,rfl,lZ⟩;obtain⟨p,ay⟩:∃p,n.paths[i]? =some p:=⟨n.paths[i]'(by omega),by simp⟩;simp-implicitDefEqProofs (disch:=omega) only[go_sem,aw,aG,ay,Net.row,Path.row];refine ck (fun eZ=>?_) (fun eZ=>?_)
 . have e:=aOv (p:=q) (q:=p) (by simpa using eZ)
   simp-implicitDefEqProofs (disch:=omega) only[go_sem];refine dJ hi rfl ⟨rfl,rfl,fun j ap=>?_⟩;rcases ju.1 ap with h|h
   . exact lZ j h
   . subst h;rw[aG,ay,e]
 simp-implicitDefEqProofs (disch:=omega) only[go_sem];exact ga.err _ _ (by omega)
theorem aNZ(f:bp)(aD:f.wf):bT au Jx [.agg f.row] (ga (k5 f=(0,0))):=by
 have hm:maxLen=9223372036854775807:=by rfl
 have g3:=aD.2.1;refine bP aGv (by simp[Ha]) ?_;simp-implicitDefEqProofs (disch:=omega) only[go_sem,Ha,bp.row];first|refine b1 (gn _ _ _) ?_|refine bV (gn _ _ _) ?_
 simp-implicitDefEqProofs (disch:=omega) only[go_sem];refine ck (fun aa=>?_) (fun aa=>?_);rotate_left
 . simp-implicitDefEqProofs (disch:=omega) only[go_sem]
   exact ga.err _ _ (by omega)
 simp-implicitDefEqProofs (disch:=omega) only[go_sem];first|refine b1 (gn _ _ _) ?_|refine bV (gn _ _ _) ?_
 simp-implicitDefEqProofs (disch:=omega) only[go_sem];refine ck (fun af=>?_) (fun af=>?_);rotate_left
 . simp-implicitDefEqProofs (disch:=omega) only[go_sem]
   exact ga.err _ _ (by omega)
 simp-implicitDefEqProofs (disch:=omega) only[go_sem];first|refine b1 (gn _ _ _) ?_|refine bV (gn _ _ _) ?_
 simp-implicitDefEqProofs (disch:=omega) only[go_sem];refine ck (fun az=>?_) (fun az=>?_);rotate_left
 . simp-implicitDefEqProofs (disch:=omega) only[go_sem]
   exact ga.err _ _ (by omega)
 simp-implicitDefEqProofs (disch:=omega) only[go_sem];refine a5 (fun bh=>?_) (fun bh=>?_)
 . simp-implicitDefEqProofs (disch:=omega) only[go_sem]
   exact ga.err _ _ (by omega)
 have Mv:¬16<f.cR.length:=by omega
 have fs:k5 f=sD (pM f.cR) f.cR.length:=by simp[k5,aa,af,az,Mv]
 simp-implicitDefEqProofs (disch:=omega) only[go_sem];refine ej f.cR (fun i vs M=>(∀k,k<i->pM f.cR k=0)/\vs=[.ptr 0 0,.int .i64 i]/\M=[.box f.row]) ⟨fun k ao=>absurd ao (e8 k),rfl,rfl⟩ ?_ ?_;rotate_left
 . rintro vs M ⟨eg,rfl,rfl⟩
   simp-implicitDefEqProofs (disch:=omega) only[go_sem,db,bp.row];exact ga.ok _ (by rw[fs,Sm eg])
 rintro i p vs M ay hi aw ⟨eg,rfl,rfl⟩;have zK:pM f.cR i=if lg p.id=false then 12 else if p.id∈(f.cR.take i).map ds.id then 6 else if p.right=false then 2 else 0:=by simp only[pM,ay]
 simp-implicitDefEqProofs (disch:=omega) only[go_sem,aw,ay,ds.row,bp.row];first|refine b1 (uW _ (aD.1 p (dQ ay)).1) ?_|refine bV (uW _ (aD.1 p (dQ ay)).1) ?_
 simp-implicitDefEqProofs (disch:=omega) only[go_sem];refine ck (fun aT=>?_) (fun aT=>?_);rotate_left
 . simp-implicitDefEqProofs (disch:=omega) only[go_sem]
   exact ga.err _ _ (by omega)
 simp-implicitDefEqProofs (disch:=omega) only[go_sem];refine ge i (fun k vs M=>vs=[.ptr 0 0,.int .i64 i,.ptr 1 0,.int .i64 k]/\M=[.box f.row,.box p.row]/\∀(j:Nat)(t:ds),j<k->f.cR[j]? =some t->t.id≠p.id) ⟨rfl,rfl,fun j s ap=>absurd ap (e8 _)⟩ ?_ ?_
 . rintro k vs M ao fi ⟨rfl,rfl,h9⟩
   obtain⟨t,aV⟩:∃t,f.cR[k]? =some t:=⟨f.cR[k],by simp⟩;simp-implicitDefEqProofs (disch:=omega) only[go_sem,fi,aV,ds.row,bp.row];refine a5 (fun he=>?_) (fun he=>?_)
   . simp-implicitDefEqProofs (disch:=omega) only[go_sem]
     exact ga.err _ _ (by omega)
   . simp-implicitDefEqProofs (disch:=omega) only[go_sem]
     refine cS ao ⟨rfl,rfl,fun j u ap hu=>?_⟩;rcases ju.1 ap with h|h
     . exact h9 j u h hu
     . subst h;rw[aV] at hu;cases hu;exact he
 rintro vs M ⟨rfl,rfl,h9⟩;have a2:¬p.id∈(f.cR.take i).map ds.id:=fun Dm=>by
  obtain⟨t,aV,he⟩:=lr.1 Dm;obtain⟨k,ao,zR⟩:=Ay aV;exact h9 k t ao zR he
 simp-implicitDefEqProofs (disch:=omega) only[go_sem,db,ds.row,bp.row];first|refine b1 (gn _ _ _) ?_|refine bV (gn _ _ _) ?_
 simp-implicitDefEqProofs (disch:=omega) only[go_sem];refine ck (fun bI=>?_) (fun bI=>?_);rotate_left
 . simp-implicitDefEqProofs (disch:=omega) only[go_sem]
   exact ga.err _ _ (by omega)
 simp-implicitDefEqProofs (disch:=omega) only[go_sem];first|refine b1 (gn _ _ _) ?_|refine bV (gn _ _ _) ?_
 simp-implicitDefEqProofs (disch:=omega) only[go_sem];refine ck (fun ce=>?_) (fun ce=>?_);rotate_left
 . simp-implicitDefEqProofs (disch:=omega) only[go_sem]
   exact ga.err _ _ (by omega)
 simp-implicitDefEqProofs (disch:=omega) only[go_sem];first|refine b1 (gn _ _ _) ?_|refine bV (gn _ _ _) ?_
 simp-implicitDefEqProofs (disch:=omega) only[go_sem];refine ck (fun dS=>?_) (fun dS=>?_);rotate_left
 . simp-implicitDefEqProofs (disch:=omega) only[go_sem]
   exact ga.err _ _ (by omega)
 simp-implicitDefEqProofs (disch:=omega) only[go_sem];first|refine b1 (gn _ _ _) ?_|refine bV (gn _ _ _) ?_
 simp-implicitDefEqProofs (disch:=omega) only[go_sem];refine ck (fun ft=>?_) (fun ft=>?_);rotate_left
 . simp-implicitDefEqProofs (disch:=omega) only[go_sem]
   exact ga.err _ _ (by omega)
 simp-implicitDefEqProofs (disch:=omega) only[go_sem];first|refine b1 (gn _ _ _) ?_|refine bV (gn _ _ _) ?_
 simp-implicitDefEqProofs (disch:=omega) only[go_sem];refine ck (fun fl=>?_) (fun fl=>?_);rotate_left
 . simp-implicitDefEqProofs (disch:=omega) only[go_sem]
   exact ga.err _ _ (by omega)
 have an:p.right=true:=by simp[ds.right,bI,ce,dS,ft,fl]
 simp-implicitDefEqProofs (disch:=omega) only[go_sem];refine dJ hi rfl ⟨fun k ao=>?_,rfl,rfl⟩;rcases ju.1 ao with h|h
 . exact eg k h
 . subst h
   rw[zK,if_neg (by simp[aT]),if_neg a2,if_neg (by simp[an])]
end Go.aL.C
namespace Go.aL.C
open Go.aL
structure E_(n:Net):Prop where
 stops:Ff n.stops
 fP:Ba n.fP
 runs:y8 n
 ch:y3 n
 sound:q7 n.paths n.stops.length
 closed:uN n.paths n.stops.length
 dD:k5 n.dD=(0,0)
structure Query where
 src:Int
 dst:Int
 time:Int
 back:Bool
 b5:Int
 walk:Int
 free:Bool
 wP:Bool
 eW:Int
 Bj:Bool
def Query.row(q:Query):List V:=[.int .i64 q.src,.int .i64 q.dst,.int .i64 q.time,.bool q.back,.int .i64 q.b5,.int .i64 q.walk,.bool q.free,.bool q.wP,.int .i64 q.eW,.bool q.Bj]
structure q6(N:Nat)(q:Query):Prop where
 src:0<=q.src/\q.src<N
 dst:0<=q.dst/\q.dst<N
 time:0<=q.time/\q.time<=3155932800
 b5:0<=q.b5/\q.b5<=8
 walk:0<=q.walk/\q.walk<=86400
 eW:0<=q.eW/\q.eW<=255
 one:¬(q.Bj=true/\q.back=true)
def q1(G:Prop)(v:V):Prop:=∃p i e:Int,v=.tuple [.int .i64 p,.int .i64 i,.int .i64 e]/\(e=0->G)
theorem q1.err{G:Prop}(p i e:Int)(he:e≠0):q1 G (.tuple [.int .i64 p,.int .i64 i,.int .i64 e]):=⟨p,i,e,rfl,fun h=>absurd h he⟩
theorem aNX(n:Net)(aK:n.wf):bT au Jv [.agg n.row] (q1 (E_ n)):=by
 have hm:maxLen=9223372036854775807:=by rfl
 have om:=aK.runs.2;have pp:=aK.ch.2;refine bP aGt (by simp[G9]) ?_;simp-implicitDefEqProofs (disch:=omega) only[go_sem,G9,Net.row];refine fw (aN7 n.stops n.mN aK.stops.1 aK.stops.2) ?_;rintro v ⟨ox,a4,rfl,aa⟩;simp-implicitDefEqProofs (disch:=omega) only[go_sem];refine a5 (fun aT=>?_) (fun aT=>?_);rotate_left
 . simp-implicitDefEqProofs (disch:=omega) only[go_sem]
   exact q1.err _ _ _ aT
 have aa:=aa aT;simp-implicitDefEqProofs (disch:=omega) only[go_sem];refine fw (aN5 n.fP n.rc aK.fP.1 aK.fP.2) ?_;rintro v ⟨aKE,bd,rfl,af⟩;simp-implicitDefEqProofs (disch:=omega) only[go_sem];refine a5 (fun a2=>?_) (fun a2=>?_);rotate_left
 . simp-implicitDefEqProofs (disch:=omega) only[go_sem]
   exact q1.err _ _ _ a2
 have af:=af a2;simp-implicitDefEqProofs (disch:=omega) only[go_sem];refine a5 (fun bJ=>?_) (fun bJ=>?_)
 . simp-implicitDefEqProofs (disch:=omega) only[go_sem]
   exact q1.err _ _ _ (by omega)
 simp-implicitDefEqProofs (disch:=omega) only[go_sem];refine ej n.runs (fun i vs M=>vs=[.ptr 0 0,.int .i64 i]/\M=[.box n.row]/\∀j,j<i->Lc n j) ⟨rfl,rfl,fun j ap=>absurd ap (e8 _)⟩ ?_ ?_
 . rintro i r vs M an hi aw ⟨rfl,rfl,H⟩
   simp-implicitDefEqProofs (disch:=omega) only[go_sem,aw,Net.row];refine fw (aN6 n i r aK an) ?_;rintro v ⟨e,rfl,he⟩;simp-implicitDefEqProofs (disch:=omega) only[go_sem];refine a5 (fun g=>?_) (fun g=>?_)
   . simp-implicitDefEqProofs (disch:=omega) only[go_sem]
     refine cS hi ⟨rfl,rfl,fun j ap=>?_⟩;rcases ju.1 ap with h|h
     . exact H j h
     . subst h;exact he g
   . simp-implicitDefEqProofs (disch:=omega) only[go_sem]
     exact q1.err _ _ _ g
 rintro vs M ⟨rfl,rfl,Zf⟩;have aJ2:y8 n:=⟨by omega,fun i r an=>Zf i (bo.1 an).1 r an⟩;simp-implicitDefEqProofs (disch:=omega) only[go_sem,db,Net.row];refine a5 (fun c8=>?_) (fun c8=>?_)
 . simp-implicitDefEqProofs (disch:=omega) only[go_sem]
   exact q1.err _ _ _ (by omega)
 simp-implicitDefEqProofs (disch:=omega) only[go_sem];refine ej n.ch (fun i vs M=>vs=[.ptr 0 0,.int .i64 i]/\M=[.box n.row]/\∀j,j<i->uU n j) ⟨rfl,rfl,fun j ap=>absurd ap (e8 _)⟩ ?_ ?_
 . rintro i r vs M an hi aw ⟨rfl,rfl,H⟩
   simp-implicitDefEqProofs (disch:=omega) only[go_sem,aw,Net.row];refine fw (aN3 n i r aK an H) ?_;rintro v ⟨e,rfl,he⟩;simp-implicitDefEqProofs (disch:=omega) only[go_sem];refine a5 (fun g=>?_) (fun g=>?_)
   . simp-implicitDefEqProofs (disch:=omega) only[go_sem]
     refine cS hi ⟨rfl,rfl,fun j ap=>?_⟩;rcases ju.1 ap with h|h
     . exact H j h
     . subst h;exact he g
   . simp-implicitDefEqProofs (disch:=omega) only[go_sem]
     exact q1.err _ _ _ g
 rintro vs M ⟨rfl,rfl,Za⟩;have aJl:y3 n:=⟨by omega,fun i r an=>Za i (bo.1 an).1 r an⟩;simp-implicitDefEqProofs (disch:=omega) only[go_sem,db,Net.row];refine fw (aN4 n aK aa.1) ?_;rintro v ⟨aRT,mY,rfl,bC⟩;simp-implicitDefEqProofs (disch:=omega) only[go_sem];refine a5 (fun eI=>?_) (fun eI=>?_);rotate_left
 . simp-implicitDefEqProofs (disch:=omega) only[go_sem]
   exact q1.err _ _ _ eI
 simp-implicitDefEqProofs (disch:=omega) only[go_sem];refine fw (aNZ n.dD aK.dD) ?_;rintro v ⟨aRU,zl,rfl,ca⟩;simp-implicitDefEqProofs (disch:=omega) only[go_sem];refine a5 (fun eZ=>?_) (fun eZ=>?_);rotate_left
 . simp-implicitDefEqProofs (disch:=omega) only[go_sem]
   exact q1.err _ _ _ eZ
 simp-implicitDefEqProofs (disch:=omega) only[go_sem];exact⟨_,_,_,rfl,fun _=>⟨aa,af,aJ2,aJl,(bC eI).1,(bC eI).2,ca eZ⟩⟩
def wE(G:Prop)(v:V):Prop:=∃b:Bool,v=.bool b/\(b=true->G)
theorem WM(n:Net)(aK:n.wf):bT au D_ [.agg n.row] (wE (E_ n)):=by
 refine bP aGz (by simp[Hd]) ?_;simp-implicitDefEqProofs (disch:=omega) only[go_sem,Hd,Net.row];refine fw (aNX n aK) ?_;rintro v ⟨p,i,e,rfl,h⟩;simp-implicitDefEqProofs (disch:=omega) only[go_sem];exact⟨_,rfl,fun g=>h (by simpa using g)⟩
structure f4(n:Net):Prop where
 ok:E_ n
 stops:n.stops.length<=5
 runs:n.runs.length<=7
 ch:n.ch.length<=30
 paths:n.paths.length<=60
 calls:∀r∈n.runs,r.calls.length<=6
theorem aN0(n:Net)(aK:n.wf):bT au Jy [.agg n.row] (wE (f4 n)):=by
 have hm:maxLen=9223372036854775807:=by rfl
 have om:=aK.runs.2;have nT:wE (f4 n) (.bool false):=⟨false,rfl,fun h=>by cases h⟩;refine bP aGx (by simp[Hc]) ?_;simp-implicitDefEqProofs (disch:=omega) only[go_sem,Hc,Net.row];refine a5 (fun aT=>?_) (fun aT=>?_)
 . simp-implicitDefEqProofs (disch:=omega) only[go_sem]
   exact nT
 simp-implicitDefEqProofs (disch:=omega) only[go_sem];refine a5 (fun a2=>?_) (fun a2=>?_)
 . simp-implicitDefEqProofs (disch:=omega) only[go_sem]
   exact nT
 simp-implicitDefEqProofs (disch:=omega) only[go_sem];refine a5 (fun bJ=>?_) (fun bJ=>?_)
 . simp-implicitDefEqProofs (disch:=omega) only[go_sem]
   exact nT
 simp-implicitDefEqProofs (disch:=omega) only[go_sem];refine a5 (fun c8=>?_) (fun c8=>?_)
 . simp-implicitDefEqProofs (disch:=omega) only[go_sem]
   exact nT
 simp-implicitDefEqProofs (disch:=omega) only[go_sem];refine ej n.runs (fun i vs M=>vs=[.ptr 0 0,.int .i64 i]/\M=[.box n.row]/\∀(j:Nat)(r:bM),j<i->n.runs[j]? =some r->r.calls.length<=6) ⟨rfl,rfl,fun j r ap=>absurd ap (e8 _)⟩ ?_ ?_
 . rintro i r vs M an hi aw ⟨rfl,rfl,H⟩
   simp-implicitDefEqProofs (disch:=omega) only[go_sem,aw,an,Net.row,bM.row];refine a5 (fun eI=>?_) (fun eI=>?_)
   . simp-implicitDefEqProofs (disch:=omega) only[go_sem]
     exact nT
   simp-implicitDefEqProofs (disch:=omega) only[go_sem];refine cS hi ⟨rfl,rfl,fun j x ap ad=>?_⟩;rcases ju.1 ap with h|h
   . exact H j x h ad
   . subst h;rw[an] at ad;cases ad;omega
 rintro vs M ⟨rfl,rfl,H⟩;simp-implicitDefEqProofs (disch:=omega) only[go_sem,db,Net.row];refine fw (WM n aK) ?_;rintro v ⟨b,rfl,aj⟩;simp-implicitDefEqProofs (disch:=omega) only[go_sem];refine⟨b,rfl,fun g=>⟨aj g,by omega,by omega,by omega,by omega,fun r an=>?_⟩⟩;obtain⟨i,hi⟩:=ir an;exact H i r (bo.1 hi).1 hi
theorem aN1(N:Nat)(q:Query)(dc:(N:Int)<=1000):bT au JG [.int .i64 N,.agg q.row] (wE (q6 N q)):=by
 have nT:wE (q6 N q) (.bool false):=⟨false,rfl,fun h=>by cases h⟩;refine bP aGI (by simp[Hn]) ?_;simp-implicitDefEqProofs (disch:=omega) only[go_sem,Hn,Query.row];first|refine b1 (qw _ _ _) ?_|refine bV (qw _ _ _) ?_
 simp-implicitDefEqProofs (disch:=omega) only[go_sem];refine ck (fun aT=>?_) (fun aT=>?_);rotate_left
 . simp-implicitDefEqProofs (disch:=omega) only[go_sem]
   exact nT
 simp-implicitDefEqProofs (disch:=omega) only[go_sem];first|refine b1 (qw _ _ _) ?_|refine bV (qw _ _ _) ?_
 simp-implicitDefEqProofs (disch:=omega) only[go_sem];refine ck (fun a2=>?_) (fun a2=>?_);rotate_left
 . simp-implicitDefEqProofs (disch:=omega) only[go_sem]
   exact nT
 simp-implicitDefEqProofs (disch:=omega) only[go_sem];first|refine b1 (qw _ _ _) ?_|refine bV (qw _ _ _) ?_
 simp-implicitDefEqProofs (disch:=omega) only[go_sem];refine ck (fun bJ=>?_) (fun bJ=>?_);rotate_left
 . simp-implicitDefEqProofs (disch:=omega) only[go_sem]
   exact nT
 simp-implicitDefEqProofs (disch:=omega) only[go_sem];first|refine b1 (qw _ _ _) ?_|refine bV (qw _ _ _) ?_
 simp-implicitDefEqProofs (disch:=omega) only[go_sem];refine ck (fun c8=>?_) (fun c8=>?_);rotate_left
 . simp-implicitDefEqProofs (disch:=omega) only[go_sem]
   exact nT
 simp-implicitDefEqProofs (disch:=omega) only[go_sem];first|refine b1 (qw _ _ _) ?_|refine bV (qw _ _ _) ?_
 simp-implicitDefEqProofs (disch:=omega) only[go_sem];refine ck (fun eI=>?_) (fun eI=>?_);rotate_left
 . simp-implicitDefEqProofs (disch:=omega) only[go_sem]
   exact nT
 simp-implicitDefEqProofs (disch:=omega) only[go_sem];first|refine b1 (qw _ _ _) ?_|refine bV (qw _ _ _) ?_
 simp-implicitDefEqProofs (disch:=omega) only[go_sem];refine ck (fun eZ=>?_) (fun eZ=>?_);rotate_left
 . simp-implicitDefEqProofs (disch:=omega) only[go_sem]
   exact nT
 rw[within_iff] at aT a2 bJ c8 eI eZ;have mk:¬(q.Bj=true/\q.back=true)->q6 N q:=fun h=>⟨by omega,by omega,bJ,c8,eI,eZ,h⟩;simp-implicitDefEqProofs (disch:=omega) only[go_sem];refine ck (fun iI=>?_) (fun iI=>?_)
 . simp-implicitDefEqProofs (disch:=omega) only[go_sem]
   exact⟨_,rfl,fun h=>mk fun e=>by rw[e.2] at h;cases h⟩
 . simp-implicitDefEqProofs (disch:=omega) only[go_sem]
   exact⟨_,rfl,fun h=>mk fun e=>by rw[e.1] at iI;cases iI⟩
theorem aNW(n:Net)(q:Query)(aK:n.wf):bT au JF [.agg n.row,.agg q.row] (fF (E_ n/\q6 n.stops.length q)):=by
 refine bP aGH (by simp[Hm]) ?_;simp-implicitDefEqProofs (disch:=omega) only[go_sem,Hm,Net.row];refine fw (WM n aK) ?_;rintro v ⟨b,rfl,aj⟩;simp-implicitDefEqProofs (disch:=omega) only[go_sem];refine ck (fun aT=>?_) (fun aT=>?_)
 . simp-implicitDefEqProofs (disch:=omega) only[go_sem]
   exact⟨_,rfl,fun h=>absurd h (by decide)⟩
 have aa:=aj (by simpa using aT);have af:=aa.stops.1;simp-implicitDefEqProofs (disch:=omega) only[go_sem,Query.row];refine fw (aN1 n.stops.length q (by omega)) ?_;rintro v ⟨dw,rfl,ry⟩;simp-implicitDefEqProofs (disch:=omega) only[go_sem];refine ck (fun a2=>?_) (fun a2=>?_)
 . simp-implicitDefEqProofs (disch:=omega) only[go_sem]
   exact⟨_,rfl,fun _=>⟨aa,ry (by simpa using a2)⟩⟩
 simp-implicitDefEqProofs (disch:=omega) only[go_sem];exact⟨_,rfl,fun h=>absurd h (by decide)⟩
theorem aEY(n:Net)(q:Query)(aK:n.wf):bT au JJ [.agg n.row,.agg q.row] (wE (f4 n/\q6 n.stops.length q/\q.b5<=3)):=by
 have nT:wE (f4 n/\q6 n.stops.length q/\q.b5<=3) (.bool false):=⟨false,rfl,fun h=>by cases h⟩;refine bP aGL (by simp[Hq]) ?_;simp-implicitDefEqProofs (disch:=omega) only[go_sem,Hq,Net.row,Query.row];refine fw (aN0 n aK) ?_;rintro v ⟨b,rfl,aj⟩;simp-implicitDefEqProofs (disch:=omega) only[go_sem];refine ck (fun aT=>?_) (fun aT=>?_);rotate_left
 . simp-implicitDefEqProofs (disch:=omega) only[go_sem]
   exact nT
 simp-implicitDefEqProofs (disch:=omega) only[go_sem];refine a5 (fun a2=>?_) (fun a2=>?_);rotate_left
 . simp-implicitDefEqProofs (disch:=omega) only[go_sem]
   exact nT
 simp-implicitDefEqProofs (disch:=omega) only[go_sem];refine fw (aNW n q aK) ?_;rintro v ⟨e,rfl,he⟩;simp-implicitDefEqProofs (disch:=omega) only[go_sem];exact⟨_,rfl,fun h=>⟨aj aT,(he (by simpa using h)).2,a2⟩⟩
end Go.aL.C
namespace Go.aL.C
open Go.aL
structure kd{α:Type}[DecidableEq α](c:fv)(cL:α->V):Prop where
 key:∀x,kI c (cL x)=true
 eq:∀x y,h1 c (cL x) (cL y)=some (decide (x=y))
section
variable{α:Type}[DecidableEq α]{c:fv}{cL:α->V}
def cI(cL:α->V)(l:List (α×V)):List (V×V):=l.map fun e=>(cL e.1,e.2)
theorem Ap(h:kd c cL)(x:α):∀l:List (α×V),nI c (cL x) (cI cL l)=true
 |[]=>rfl
 |e::l=>by
  show((h1 c (cL x) (cL e.1)).isSome&&nI c (cL x) (cI cL l))=true;rw[Ap h x l,h.eq];rfl
def fZ(x:α)(l:List (α×V)):Option V:=(l.find? fun e=>decide (x=e.1)).map (·.2)
theorem VL(h:kd c cL)(x:α):∀l:List (α×V),rT c (cL x) (cI cL l)=fZ x l
 |[]=>rfl
 |e::l=>by
  show(bif (h1 c (cL x) (cL e.1)).getD false then some e.2 else rT c (cL x) (cI cL l))=_;rw[VL h x l,h.eq];simp only[fZ,List.find?_cons];cases decide (x=e.1)<;>rfl
theorem VQ(h:kd c cL)(x:α)(v:V):∀l:List (α×V),(∀e∈l,e.1≠x)->oB c (cL x) v (cI cL l)=cI cL (l++[(x,v)])
 |[],_=>rfl
 |e::l,aK=>by
  have aa:decide (x=e.1)=false:=decide_eq_false fun q=>aK e (by simp) q.symm;show(bif (h1 c (cL x) (cL e.1)).getD false then _ else(cL e.1,e.2)::oB c (cL x) v (cI cL l))=_;rw[VQ h x v l fun q aG=>aK q (by simp[aG]),h.eq,aa];rfl
theorem At(h:kd c cL)(z:V)(ok:Bool)(x:α)(l:List (α×V)):nK c z ok (cL x) (cI cL l)=some (match fZ x l with
 |some v=>(match ok with|true=>.tuple [v,.bool true]|false=>v)
 |none=>(match ok with|true=>.tuple [z,.bool false]|false=>z)):=by
 simp only[nK,oA,m9,h.key,cond_true,ji,Ap h,VL h,FF];cases fZ x l<;>rfl
theorem X6(h:kd c cL){x:α}{v:V}{l:List (α×V)}(aq:v.iK=true)(aK:∀e∈l,e.1≠x):nZ c (cL x) v (cI cL l)=some (cI cL (l++[(x,v)])):=by
 simp only[nZ,h.key,Ap h,aq,eQ,cond_true,VQ h x v l aK]
theorem wq(n:Nat):∀l:List (α×V),(∀e∈l,e.2.under n=true)->ni n (cI cL l)=true
 |[],_=>rfl
 |e::l,h=>by
  show(V.under n e.2&&ni n (cI cL l))=true;rw[wq n l fun q aG=>h q (by simp[aG]),h e (by simp)];rfl
def je(l:List α):List (α×V):=l.map fun x=>(x,.bool true)
theorem aOU(l:List α)(x:α):je l++[(x,.bool true)]=je (l++[x]):=by simp[je]
theorem TR(x:α):∀l:List α,fZ x (je l)=if x∈l then some (.bool true) else none
 |[]=>rfl
 |y::l=>by
  have bu:=TR x l;unfold fZ je at bu⊢;rw[hY,List.find?_cons];by_cases h:x=y
  . subst h;simp
  . have aw:decide (x=y)=false:=decide_eq_false h
    simp only[jt,h,false_or];exact bu
theorem aL0(h:kd c cL)(x:α)(l:List α):nK c (.bool false) false (cL x) (cI cL (je l))=some (.bool (decide (x∈l))):=by
 rw[At h,TR];by_cases ad:x∈l<;>simp[ad]
theorem x8(h:kd c cL){x:α}{l:List α}(aK:x∉l):nK c (.bool false) false (cL x) (cI cL (je l))=some (.bool false):=by
 rw[aL0 h,decide_eq_false aK]
theorem yL(h:kd c cL){x:α}{l:List α}(aK:x∉l):nZ c (cL x) (.bool true) (cI cL (je l))=some (cI cL (je (l++[x]))):=by
 rw[X6 h rfl fun e he=>?_,aOU];obtain⟨y,aE,rfl⟩:=lr.1 he;exact fun q=>aK (q▸aE)
theorem wu(n:Nat)(l:List α):ni n (cI cL (je l))=true:=wq n _ fun e he=>by
 obtain⟨y,_,rfl⟩:=lr.1 he;rfl
end
def sa(s:List UInt8):V:=.str s
theorem Ky:kd .str sa:=⟨fun _=>rfl,fun _ _=>rfl⟩
def i_(n:Int):V:=.int .i64 n
theorem vV:kd .int i_:=⟨fun _=>rfl,fun x y=>by simp[i_,h1,hE]⟩
theorem Eb{α β:Type}{l:List α}{f:α->β}{i:Nat}{x:α}(h:∀(k:Nat)(t:α),k<i->l[k]? =some t->f t≠f x):f x∉(l.take i).map f:=fun hm=>by
 obtain⟨t,aV,he⟩:=lr.1 hm;obtain⟨k,ao,zR⟩:=Ay aV;exact h k t ao zR he
theorem AR{α β:Type}{l:List α}{f:α->β}{i:Nat}{x:α}(h:l[i]? =some x):(l.take i).map f++[f x]=(l.take (i+1)).map f:=by
 rw[iu,h];simp
theorem Xs(l:List Stop)(c:c4)(ag:∀s∈l,s.wf)(ok:Ff l):bT au Jt [.slice (l.map Stop.row) c] (fun v=>v=j5 (0,0)):=by
 obtain⟨hlen,ok⟩:=ok;refine bP aGr (by simp[G7]) ?_;simp-implicitDefEqProofs (disch:=omega) only[go_sem,G7];refine a5 (fun h=>?_) (fun _=>?_)
 . omega
 simp-implicitDefEqProofs (disch:=omega) only[go_sem];refine ej l (fun i vs M=>vs=[.map 0,.slice (l.map Stop.row) c,.int .i64 l.length,.int .i64 i]/\M=[.map (cI sa (je ((l.take i).map Stop.id)))]) ⟨rfl,rfl⟩ ?_ ?_;rotate_left
 . rintro vs M ⟨rfl,rfl⟩
   simp-implicitDefEqProofs (disch:=omega) only[go_sem,db,j5]
 rintro i s vs M ak hi aw ⟨rfl,rfl⟩;obtain⟨aa,af,az,bh⟩:=ok i s ak;have aK:=Eb bh;have a4:nK .str (.bool false) false (.str s.id) (cI sa (je ((l.take i).map Stop.id)))=some (.bool false):=x8 Ky aK;have bd:nZ .str (.str s.id) (.bool true) (cI sa (je ((l.take i).map Stop.id)))=some (cI sa (je ((l.take (i+1)).map Stop.id))):=by
  rw[show V.str s.id=sa s.id from rfl,yL Ky aK,AR ak]
 simp-implicitDefEqProofs (disch:=omega) only[go_sem,aw,ak,Stop.row];first|refine b1 (vT s.id (ag s (dQ ak)).1) ?_|refine bV (vT s.id (ag s (dQ ak)).1) ?_
 simp-implicitDefEqProofs (disch:=omega) only[go_sem,aa,a4];refine a5 (fun h=>?_) (fun _=>?_)
 . omega
 simp-implicitDefEqProofs (disch:=omega) only[go_sem];refine a5 (fun h=>?_) (fun _=>?_)
 . omega
 simp-implicitDefEqProofs (disch:=omega) only[go_sem];refine a5 (fun h=>?_) (fun _=>?_)
 . omega
 simp-implicitDefEqProofs (disch:=omega) only[go_sem];refine a5 (fun h=>?_) (fun _=>?_)
 . omega
 simp-implicitDefEqProofs (disch:=omega) only[go_sem,bd];exact dJ hi (by simp[hT,dr,aX,cT,V.under,cq,a1.under,wu]) ⟨rfl,rfl⟩
theorem WY(m:Int):bT au I8 [.int .i64 m] (fun v=>v=.bool (decide (0<=m/\m<8))):=by
 refine bP aF4 (by simp[GI]) ?_;simp-implicitDefEqProofs (disch:=omega) only[go_sem,GI];refine a5 (fun h=>?_) (fun h=>?_)
 . simp-implicitDefEqProofs (disch:=omega) only[go_sem]
   exact decide_eq_decide.2 (by omega)
 . simp-implicitDefEqProofs (disch:=omega) only[go_sem]
   symm;exact decide_eq_false (by omega)
theorem WX(l:List fo)(c:c4)(ag:∀s∈l,s.wf)(ok:Ba l):bT au I7 [.slice (l.map fo.row) c] (fun v=>v=j5 (0,0)):=by
 obtain⟨hlen,ok⟩:=ok;refine bP aF3 (by simp[GH]) ?_;simp-implicitDefEqProofs (disch:=omega) only[go_sem,GH];refine a5 (fun h=>?_) (fun _=>?_)
 . omega
 simp-implicitDefEqProofs (disch:=omega) only[go_sem];refine ej l (fun i vs M=>vs=[.map 0,.slice (l.map fo.row) c,.int .i64 l.length,.int .i64 i]/\M=[.map (cI sa (je ((l.take i).map fo.id)))]) ⟨rfl,rfl⟩ ?_ ?_;rotate_left
 . rintro vs M ⟨rfl,rfl⟩
   simp-implicitDefEqProofs (disch:=omega) only[go_sem,db,j5]
 rintro i s vs M ak hi aw ⟨rfl,rfl⟩;obtain⟨aa,af,bh⟩:=ok i s ak;have aK:=Eb bh;have a4:nK .str (.bool false) false (.str s.id) (cI sa (je ((l.take i).map fo.id)))=some (.bool false):=x8 Ky aK;have bd:nZ .str (.str s.id) (.bool true) (cI sa (je ((l.take i).map fo.id)))=some (cI sa (je ((l.take (i+1)).map fo.id))):=by
  rw[show V.str s.id=sa s.id from rfl,yL Ky aK,AR ak]
 have bC:decide (0<=s.mode/\s.mode<8)=true:=decide_eq_true ⟨by omega,by omega⟩;simp-implicitDefEqProofs (disch:=omega) only[go_sem,aw,ak,fo.row];first|refine b1 (vT s.id (ag s (dQ ak)).1) ?_|refine bV (vT s.id (ag s (dQ ak)).1) ?_
 simp-implicitDefEqProofs (disch:=omega) only[go_sem,aa,a4];first|refine b1 (WY s.mode) ?_|refine bV (WY s.mode) ?_
 simp-implicitDefEqProofs (disch:=omega) only[go_sem,bC,bd];exact dJ hi (by simp[hT,dr,aX,cT,V.under,cq,a1.under,wu]) ⟨rfl,rfl⟩
theorem Rk(l:List bG)(c:c4)(i:Nat)(stops low high:Int)(hlen:l.length<=32)(hi:i<l.length)(ok:E0 l stops low high i):bT au Ig [.slice (l.map bG.row) c,.int .i64 i,.int .i64 stops,.int .i64 low,.int .i64 high] (fun v=>v=.int .i64 0):=by
 obtain⟨s,ak⟩:∃s,l[i]? =some s:=⟨l[i],by simp⟩;obtain⟨aa,af,az⟩:=ok s ak;refine bP aFl (by simp[F6]) ?_;simp-implicitDefEqProofs (disch:=omega) only[go_sem,F6,ak,bG.row];refine a5 (fun h=>?_) (fun _=>?_)
 . omega
 simp-implicitDefEqProofs (disch:=omega) only[go_sem];refine a5 (fun h=>?_) (fun _=>?_)
 . omega
 simp-implicitDefEqProofs (disch:=omega) only[go_sem];refine a5 (fun ay=>?_) (fun ay=>?_);rotate_left
 . simp-implicitDefEqProofs (disch:=omega) only[go_sem]
   refine a5 (fun h=>?_) (fun _=>?_)
   . omega
   simp-implicitDefEqProofs (disch:=omega) only[go_sem];refine a5 (fun h=>?_) (fun _=>?_)
   . omega
   simp-implicitDefEqProofs (disch:=omega) only[go_sem];refine a5 (fun h=>?_) (fun _=>?_)
   . omega
   simp-implicitDefEqProofs (disch:=omega) only[go_sem];refine a5 (fun h=>?_) (fun _=>?_)
   . omega
   simp-implicitDefEqProofs (disch:=omega) only[go_sem]
 have zO:0<i:=by omega
 obtain⟨p,Dt⟩:∃p,l[i -1]? =some p:=⟨l[i -1],by simp⟩;obtain⟨bh,bC⟩:=az p zO Dt;have hw:IntKind.i64.wrap ((i:Int) -1)=(i:Int) -1:=by rw[jG];omega
 have Dp:((i:Int) -1)=((i -1:Nat):Int):=by omega
 simp-implicitDefEqProofs (disch:=omega) only[go_sem,Dp,Dt,bG.row];refine a5 (fun h=>?_) (fun _=>?_)
 . exact absurd h bh
 simp-implicitDefEqProofs (disch:=omega) only[go_sem];refine a5 (fun h=>?_) (fun _=>?_)
 . omega
 simp-implicitDefEqProofs (disch:=omega) only[go_sem];refine a5 (fun h=>?_) (fun _=>?_)
 . omega
 simp-implicitDefEqProofs (disch:=omega) only[go_sem];refine a5 (fun h=>?_) (fun _=>?_)
 . omega
 simp-implicitDefEqProofs (disch:=omega) only[go_sem];refine a5 (fun _=>?_) (fun h=>?_);rotate_left
 . omega
 simp-implicitDefEqProofs (disch:=omega) only[go_sem,Dp,Dt,bG.row];refine a5 (fun h=>?_) (fun _=>?_)
 . omega
 simp-implicitDefEqProofs (disch:=omega) only[go_sem]
theorem Rj(l:List bG)(c:c4)(stops low high:Int)(ok:A4 l stops low high):bT au If [.slice (l.map bG.row) c,.int .i64 stops,.int .i64 low,.int .i64 high] (fun v=>v=j5 (0,0)):=by
 obtain⟨aa,af,ok⟩:=ok;refine bP aFk (by simp[F5]) ?_;simp-implicitDefEqProofs (disch:=omega) only[go_sem,F5];refine a5 (fun h=>?_) (fun _=>?_)
 . omega
 simp-implicitDefEqProofs (disch:=omega) only[go_sem];refine a5 (fun h=>?_) (fun _=>?_)
 . omega
 simp-implicitDefEqProofs (disch:=omega) only[go_sem];refine ej l (fun i vs M=>vs=[.slice (l.map bG.row) c,.int .i64 stops,.int .i64 low,.int .i64 high,.int .i64 l.length,.int .i64 i]/\M=[]) ⟨rfl,rfl⟩ ?_ ?_;rotate_left
 . rintro vs M ⟨rfl,rfl⟩
   simp-implicitDefEqProofs (disch:=omega) only[go_sem,db,j5]
 rintro i s vs M ak hi aw ⟨rfl,rfl⟩;simp-implicitDefEqProofs (disch:=omega) only[go_sem,aw];first|refine b1 (Rk l c i stops low high af hi (ok i)) ?_|refine bV (Rk l c i stops low high af hi (ok i)) ?_
 simp-implicitDefEqProofs (disch:=omega) only[go_sem];exact cS hi ⟨rfl,rfl⟩
end Go.aL.C
namespace Go.aL.C
open Go.aL
theorem qG(i n:Int):bT au uc [.int .i64 i,.int .i64 n] (fun v=>v=.bool (decide (0<=i/\i<n))):=by
 refine bP aF2 (by simp[GG]) ?_;simp-implicitDefEqProofs (disch:=omega) only[go_sem,GG];refine a5 (fun h=>?_) (fun h=>?_)
 . simp-implicitDefEqProofs (disch:=omega) only[go_sem]
   exact decide_eq_decide.2 (by omega)
 . simp-implicitDefEqProofs (disch:=omega) only[go_sem]
   symm;exact decide_eq_false (by omega)
def gK(p i e:Int):List V:=[.int .i64 p,.int .i64 i,.int .i64 e]
theorem AB(p i e:Int):bT au j0 [.int .i64 p,.int .i64 i,.int .i64 e] (fun v=>v=.agg (gK p i e)):=by
 refine bP aF1 (by simp[GF]) ?_;simp-implicitDefEqProofs (disch:=omega) only[go_sem,GF,gK]
theorem aMR(l:List (Int×Int×Int))(c:c4)(ag:l.length<=10):bT au Aa [.slice (l.map fun r=>gK r.1 r.2.1 r.2.2) c] (fun v=>∃p i e,v=.agg (gK p i e)/\((∀r∈l,r.2.2=0)->p=0/\i=0/\e=0)):=by
 refine bP aFS (by simp[GC]) ?_;simp-implicitDefEqProofs (disch:=omega) only[go_sem,GC];refine ej l (fun i vs M=>vs=[.ptr 0 0,.slice (l.map fun r=>gK r.1 r.2.1 r.2.2) c,.int .i64 l.length,.int .i64 i]/\M=[.box (gK 0 0 0)]/\∀(j:Nat)(r:Int×Int×Int),j<i->l[j]? =some r->r.2.2=0) ⟨rfl,rfl,fun j r ap=>absurd ap (e8 _)⟩ ?_ ?_;rotate_left
 . rintro vs M ⟨rfl,rfl,H⟩
   simp-implicitDefEqProofs (disch:=omega) only[go_sem,db,gK];exact⟨0,0,0,rfl,fun _=>⟨rfl,rfl,rfl⟩⟩
 rintro i r vs M an hi aw ⟨rfl,rfl,H⟩;simp-implicitDefEqProofs (disch:=omega) only[go_sem,aw,an,gK];refine a5 (fun h=>?_) (fun h=>?_)
 . simp-implicitDefEqProofs (disch:=omega) only[go_sem]
   refine dJ hi rfl ⟨rfl,rfl,fun j x ap ad=>?_⟩;rcases ju.1 ap with aa|aa
   . exact H j x aa ad
   . subst aa;rw[an] at ad;cases ad;exact h
 . simp-implicitDefEqProofs (disch:=omega) only[go_sem]
   exact⟨_,_,_,rfl,fun eg=>absurd (eg r (dQ an)) h⟩
def runK(k:List UInt8×Int×Int):V:=.agg [.str k.1,.int .i64 k.2.1,.int .i64 k.2.2]
theorem W5:kd (.cells [.str,.int,.int]) runK:=⟨fun _=>rfl,fun x y=>by
 obtain⟨a,b,c⟩:=x;obtain⟨d,e,f⟩:=y;simp[runK,h1,gG,hE,Bool.decide_and]⟩
theorem aDe(n:Net)(aK:n.wf)(ok:y8 n):bT au IR [.agg n.row] (fun v=>v=.agg (gK 0 0 0)):=by
 obtain⟨hlen,ok⟩:=ok;refine bP aFR (by simp[GB]) ?_;simp-implicitDefEqProofs (disch:=omega) only[go_sem,GB,Net.row];refine a5 (fun h=>?_) (fun _=>?_)
 . omega
 simp-implicitDefEqProofs (disch:=omega) only[go_sem];refine ej n.runs (fun i vs M=>vs=[.ptr 0 0,.ptr 1 0,.map 2,.slice (n.runs.map bM.row) n.pS,.int .i64 n.runs.length,.int .i64 i]/\M=[.box n.row,.box (gK 0 0 0),.map (cI runK (je ((n.runs.take i).map bM.key)))]) ⟨rfl,rfl⟩ ?_ ?_;rotate_left
 . rintro vs M ⟨rfl,rfl⟩
   simp-implicitDefEqProofs (disch:=omega) only[go_sem,db,gK,Net.row]
 rintro i r vs M an hi aw ⟨rfl,rfl⟩;obtain⟨aa,af,az,bh,bC,ca,dY⟩:=ok i r an;have pz:=aK.runs.1 r (dQ an);have mF:=Eb dY;have a4:=x8 W5 mF;have bd:=yL W5 mF;rw[AR an] at bd;simp only[runK,bM.key] at a4 bd;have aRB:=ca.2.1;simp-implicitDefEqProofs (disch:=omega) only[go_sem,aw,an,bM.row,Net.row];first|refine b1 (vT r.id pz.2.2.2.1) ?_|refine bV (vT r.id pz.2.2.2.1) ?_
 simp-implicitDefEqProofs (disch:=omega) only[go_sem,aa];refine a5 (fun h=>?_) (fun _=>?_)
 . omega
 simp-implicitDefEqProofs (disch:=omega) only[go_sem];refine a5 (fun h=>?_) (fun _=>?_)
 . omega
 simp-implicitDefEqProofs (disch:=omega) only[go_sem];refine a5 (fun h=>?_) (fun _=>?_)
 . omega
 simp-implicitDefEqProofs (disch:=omega) only[go_sem];refine a5 (fun h=>?_) (fun _=>?_)
 . omega
 simp-implicitDefEqProofs (disch:=omega) only[go_sem];refine a5 (fun h=>?_) (fun _=>?_)
 . omega
 simp-implicitDefEqProofs (disch:=omega) only[go_sem];refine a5 (fun h=>?_) (fun _=>?_)
 . omega
 simp-implicitDefEqProofs (disch:=omega) only[go_sem];first|refine b1 (Rj r.calls r.tag n.stops.length 0 3155932800 ca) ?_|refine bV (Rj r.calls r.tag n.stops.length 0 3155932800 ca) ?_
 simp-implicitDefEqProofs (disch:=omega) only[go_sem,j5,a4];simp-implicitDefEqProofs (disch:=omega) only[go_sem,bd];refine dJ hi (by simp[hT,dr,aX,cT,V.under,cq,a1.under,wu,gK]) ⟨rfl,rfl⟩
end Go.aL.C
namespace Go.aL.C
open Go.aL
def r_(ls:List dG):List dG:=ls.filter (·.stay)
def nR(ls:List dG):List (Int×V):=(r_ ls).map fun l=>(l.src,.int .i64 l.dst)
theorem aGW{ls:List dG}{x:Int}{v:V}(h:fZ x (nR ls)=some v):∃y,v=.int .i64 y/\p2 ls x y:=by
 unfold fZ at h;obtain⟨e,he,rfl⟩:=dK.1 h;have hm:=List.mem_of_find?_eq_some he;have ay:=List.find?_some he;simp only[decide_eq_true_eq] at ay;obtain⟨l,ag,rfl⟩:=lr.1 hm;have gP:=oU.1 ag;exact⟨l.dst,rfl,l,gP.1,gP.2,ay.symm,rfl⟩
theorem N6(ls:List dG)(x:Int):∃y t,nK .int (.int .i64 0) true (.int .i64 x) (cI i_ (nR ls))=some (.tuple [.int .i64 y,.bool t])/\(t=true->p2 ls x y)/\(t=true->∃v,fZ x (nR ls)=some v):=by
 rw[show V.int .i64 x=i_ x from rfl,At vV];cases h:fZ x (nR ls) with
 |none=>exact⟨0,false,rfl,(fun e=>by cases e),(fun e=>by cases e)⟩
 |some v=>
  obtain⟨y,rfl,ak⟩:=aGW h;exact⟨y,true,rfl,fun _=>ak,fun _=>⟨_,rfl⟩⟩
theorem aMS{M:Mem}{id:Nat}{ls:List dG}{d:Int->Nat}(x y:Int)(a7:M[id]? =some (.map (cI i_ (nR ls))))(dZ:cq M.length M=true)(aw:y0 ls d)(qo:¬mq ls x y):
 b9 au IZ [.map id,.int .i64 x,.int .i64 y] M (fun v ah=>v=.bool false/\ah=M):=by
 have dy:List.take M.length M=M:=gB;refine bP aF0 (by simp[GD]) ?_;obtain⟨u,t,a4,ak,_⟩:=N6 ls x;simp-implicitDefEqProofs (disch:=omega) only[go_sem,GD,a7,a4];refine lT (fun m vs N=>∃(q9:Int)(ok:Bool),vs=[.map id,.int .i64 y,.int .i64 q9,.bool ok]/\N=M/\(ok=true->mq ls x q9/\d q9<m)) (d x+1) ⟨u,t,rfl,rfl,fun h=>⟨.single (ak h),by have:=aw _ _ (ak h);omega⟩⟩ ?_;rintro m vs N ⟨a,ok,rfl,rfl,H⟩;simp-implicitDefEqProofs (disch:=omega) only[go_sem];refine ck (fun aT=>?_) (fun aT=>?_)
 . obtain⟨aa,af⟩:=H aT
   obtain⟨qR,t2,bd,hK,_⟩:=N6 ls a;simp-implicitDefEqProofs (disch:=omega) only[go_sem];refine a5 (fun a2=>?_) (fun a2=>?_)
   . subst a2;exact absurd aa qo
   simp-implicitDefEqProofs (disch:=omega) only[go_sem,a7,bd];exact uB (d a) af ⟨qR,t2,rfl,rfl,fun h=>⟨.tail aa (hK h),aw _ _ (hK h)⟩⟩
 . simp-implicitDefEqProofs (disch:=omega) only[go_sem,dy,dZ]
def JS(k:Int×Int×Int×Int):V:=.agg [.int .i64 k.1,.int .i64 k.2.1,.int .i64 k.2.2.1,.int .i64 k.2.2.2]
theorem VB:kd (.cells [.int,.int,.int,.int]) JS:=⟨fun _=>rfl,fun x y=>by
 obtain⟨a,b,c,d⟩:=x;obtain⟨e,f,g,h⟩:=y;simp[JS,h1,gG,hE,Bool.decide_and]⟩
theorem Xo{ls:List dG}{i:Nat}{l:dG}(h:ls[i]? =some l):r_ (ls.take (i+1))=r_ (ls.take i)++if l.stay=true then[l] else[]:=by
 rw[r_,iu,h,List.filter_append];cases ak:l.stay<;>simp[r_,ak]
theorem Xm{n:Net}{i:Nat}{l:dG}(h:PP n i l)(ak:l.stay=true){o:dG}(aA:o∈r_ (n.ch.take i)):o.src≠l.src/\o.dst≠l.dst:=by
 have:=oU.1 aA;obtain⟨k,ao,gO⟩:=Ay this.1;exact h.uniq ak k o ao gO this.2
theorem Pe(n:Nat)(ls:List dG):ni n (cI i_ (nR ls))=true:=wq n _ fun e he=>by
 obtain⟨y,_,rfl⟩:=lr.1 he;rfl
theorem aDc(n:Net)(aK:n.wf)(ok:y3 n):bT au IP [.agg n.row] (fun v=>v=.agg (gK 0 0 0)):=by
 have hm:maxLen=9223372036854775807:=by rfl
 obtain⟨hlen,ok⟩:=ok;have om:=aK.runs.2;refine bP aFP (by simp[Gz]) ?_;simp-implicitDefEqProofs (disch:=omega) only[go_sem,Gz,Net.row];refine a5 (fun h=>?_) (fun _=>?_)
 . omega
 simp-implicitDefEqProofs (disch:=omega) only[go_sem];refine ej n.ch (fun i vs M=>vs=[.ptr 0 0,.ptr 1 0,.map 2,.map 3,.map 4,.slice (n.ch.map dG.row) n.lc,.int .i64 n.ch.length,.int .i64 i]/\
  M=[.box n.row,.box (gK 0 0 0),.map (cI i_ (nR (n.ch.take i))),.map (cI i_ (je ((r_ (n.ch.take i)).map dG.dst))),.map (cI JS (je ((n.ch.take i).map dG.key)))]) ⟨rfl,rfl⟩ ?_ ?_;rotate_left
 . rintro vs M ⟨rfl,rfl⟩
   simp-implicitDefEqProofs (disch:=omega) only[go_sem,db,gK,Net.row]
 rintro i l vs M ag hi aw ⟨rfl,rfl⟩;have q9:=ok i l ag;obtain⟨⟨s1,dq⟩,⟨d1,d2⟩,cD,MR,aKo,HQ,jp⟩:=q9;obtain⟨a,a9⟩:∃a,n.runs[l.src.toNat]? =some a:=⟨n.runs[l.src.toNat]'(by omega),by simp⟩;obtain⟨b,aj⟩:∃b,n.runs[l.dst.toNat]? =some b:=⟨n.runs[l.dst.toNat]'(by omega),by simp⟩;obtain⟨⟨eX,g1⟩,⟨rg,wU⟩,aKi,aIh⟩:=MR a b a9 aj;have aHK:=(aK.runs.1 a (dQ a9)).2.2.2.2.2.2;obtain⟨c,ar⟩:∃c,a.calls[l.h5.toNat]? =some c:=⟨a.calls[l.h5.toNat]'(by omega),by simp⟩;obtain⟨e,he⟩:∃e,b.calls[l.kj.toNat]? =some e:=⟨b.calls[l.kj.toNat]'(by omega),by simp⟩;have aHW:=aKi c e ar he;have gL:decide (0<=l.src/\l.src<(n.runs.length:Int))=true:=decide_eq_true ⟨s1,dq⟩;have kS:decide (0<=l.dst/\l.dst<(n.runs.length:Int))=true:=decide_eq_true ⟨d1,d2⟩;have wv:decide (0<=l.h5/\l.h5<(a.calls.length:Int))=true:=decide_eq_true ⟨eX,g1⟩;have Ps:decide (0<=l.kj/\l.kj<(b.calls.length:Int))=true:=decide_eq_true ⟨rg,wU⟩;obtain⟨u,t,a4,ak,gx⟩:=N6 (n.ch.take i) l.src;have UF:=Eb jp;have bI:=x8 VB UF;have ce:=yL VB UF;rw[AR ag] at ce;simp only[JS,dG.key] at bI ce;simp-implicitDefEqProofs (disch:=omega) only[go_sem,aw,ag,dG.row,Net.row];first|refine b1 (qG _ _) ?_|refine bV (qG _ _) ?_
 simp-implicitDefEqProofs (disch:=omega) only[go_sem,gL];first|refine b1 (qG _ _) ?_|refine bV (qG _ _) ?_
 simp-implicitDefEqProofs (disch:=omega) only[go_sem,kS];refine a5 (fun h=>absurd h cD) (fun _=>?_);simp-implicitDefEqProofs (disch:=omega) only[go_sem,a9,aj,bM.row];first|refine b1 (qG _ _) ?_|refine bV (qG _ _) ?_
 simp-implicitDefEqProofs (disch:=omega) only[go_sem,wv];first|refine b1 (qG _ _) ?_|refine bV (qG _ _) ?_
 simp-implicitDefEqProofs (disch:=omega) only[go_sem,Ps];simp-implicitDefEqProofs (disch:=omega) only[go_sem,ar,he,bG.row,a4];refine a5 (fun _=>?_) (fun h=>absurd aHW h);simp-implicitDefEqProofs (disch:=omega) only[go_sem];refine ck (fun aT=>?_) (fun aT=>?_);rotate_left
 . have bl:=Xo ag
   rw[aT,if_neg (by simp),fA] at bl;simp-implicitDefEqProofs (disch:=omega) only[go_sem,bI];simp-implicitDefEqProofs (disch:=omega) only[go_sem,ce];refine ck (fun h=>?_) (fun _=>?_)
   . rw[aT] at h;cases h
   simp-implicitDefEqProofs (disch:=omega) only[go_sem];refine dJ hi (by simp[hT,dr,aX,cT,V.under,cq,a1.under,wu,Pe,gK]) ⟨rfl,?_⟩;have mY:nR (n.ch.take (i+1))=nR (n.ch.take i):=by rw[nR,bl];rfl
   rw[mY,bl];rfl
 obtain⟨dx,dm⟩:=aIh aT;have aV:t=false:=by
  cases t with
  |false=>rfl
  |true=>
   obtain⟨o,aA,jX,aJE,_⟩:=ak rfl;obtain⟨k,ao,gO⟩:=Ay aA;exact absurd aJE (aKo aT k o ao gO jX).1
 subst aV;have UA:l.dst∉(r_ (n.ch.take i)).map dG.dst:=fun hm=>by
  obtain⟨o,aA,he⟩:=lr.1 hm;exact(Xm (ok i l ag) aT aA).2 he
 have dS:nK .int (.bool false) false (.int .i64 l.dst) (cI i_ (je ((r_ (n.ch.take i)).map dG.dst)))=some (.bool false):=x8 vV UA;have ft:nZ .int (.int .i64 l.dst) (.bool true) (cI i_ (je ((r_ (n.ch.take i)).map dG.dst)))=some (cI i_ (je ((r_ (n.ch.take i)).map dG.dst++[l.dst]))):=yL vV UA;have fl:nZ .int (.int .i64 l.src) (.int .i64 l.dst) (cI i_ (nR (n.ch.take i)))=some (cI i_ (nR (n.ch.take i)++[(l.src,.int .i64 l.dst)])):=X6 vV rfl fun q aG=>by
  obtain⟨o,aA,rfl⟩:=lr.1 aG;exact(Xm (ok i l ag) aT aA).1
 have bl:=Xo ag;rw[aT,if_pos rfl] at bl;have mY:nR (n.ch.take i)++[(l.src,.int .i64 l.dst)]=nR (n.ch.take (i+1)):=by simp[nR,bl]
 rw[mY] at fl;obtain⟨o7,ph⟩:=FL n i (by omega) fun k _=>ok k;have hw:IntKind.i64.wrap (l.h5+1)=l.h5+1:=by rw[jG];omega
 simp-implicitDefEqProofs (disch:=omega) only[go_sem,hw];refine a5 (fun _=>?_) (fun h=>absurd (by omega) h);simp-implicitDefEqProofs (disch:=omega) only[go_sem];refine a5 (fun _=>?_) (fun h=>absurd dm h);simp-implicitDefEqProofs (disch:=omega) only[go_sem,dS];refine ew (aMS (ls:=n.ch.take i) (d:=o7) l.dst l.src rfl (by simp[cq,a1.under,wu,Pe,cT,V.under,gK]) ph (HQ aT)) ?_;rintro v ah ⟨rfl,rfl⟩;simp-implicitDefEqProofs (disch:=omega) only[go_sem,bI];simp-implicitDefEqProofs (disch:=omega) only[go_sem,ce];refine ck (fun _=>?_) (fun h=>?_);rotate_left
 . rw[aT] at h;cases h
 simp-implicitDefEqProofs (disch:=omega) only[go_sem,fl,ft];refine dJ hi (by simp[hT,dr,aX,cT,V.under,cq,a1.under,wu,Pe,gK]) ⟨rfl,?_⟩;simp[bl,Net.row]
end Go.aL.C
namespace Go.aL.C
open Go.aL
structure dp where
 node:Int
 len:Int
 ec:Int
abbrev cj:=dp×Int
def dp.cells(x:dp):List V:=[.int .i64 x.node,.int .i64 x.len,.int .i64 x.ec]
def h4(e:cj):List V:=[.int .i64 e.1.node,.int .i64 e.1.len,.int .i64 e.1.ec,.int .i64 e.2]
def yy(a b:dp):Bool:=decide (a.len<b.len)||(decide (a.len=b.len)&&decide (a.ec<b.ec))
theorem Xb(a b:dp):bT au j1 [.agg a.cells,.agg b.cells] (fun v=>v=.bool (yy a b)):=by
 refine bP aF_ (by simp[GO]) ?_;simp-implicitDefEqProofs (disch:=omega) only[go_sem,GO,dp.cells];refine a5 (fun h=>?_) (fun h=>?_)
 . simp-implicitDefEqProofs (disch:=omega) only[go_sem,yy,h,Bool.true_or]
 simp-implicitDefEqProofs (disch:=omega) only[go_sem];refine a5 (fun af=>?_) (fun af=>?_)
 . simp-implicitDefEqProofs (disch:=omega) only[go_sem,yy,af,Bool.false_or,db]
 . simp-implicitDefEqProofs (disch:=omega) only[go_sem,yy,h,af,Bool.false_or]
def wd(x y:cj):Bool:=yy x.1 y.1||(!yy y.1 x.1&&decide (x.2<y.2))
def pg(a ver n:Nat)(p:Int):a1:=.box [.dF j1 [],.aZ a ver 0 n,.int .i64 p]
def cP(M:Mem)(h a:Nat)(l j:List cj)(ver:Nat)(p:Int):Mem:=(M.set a (.arr 4 ((l++j).map h4) ver 0)).set h (pg a ver l.length p)
structure lv(M:Mem)(h a:Nat):Prop where
 aj:h<M.length
 Bc:a<M.length
 ne:h≠a
 own:cq M.length M=true
theorem VZ{n:Nat}:∀{M:Mem},cq n M=true->∀(i:Nat)(B:a1),M[i]? =some B->B.under n=true
 |[],_,i,B,h=>by simp at h
 |h8::M,hm,i,B,h=>by
  simp only[cq,cc] at hm;cases i with
  |zero=>simp at h;subst h;exact hm.1
  |succ i=>exact VZ hm.2 i B (by simpa using h)
theorem Ax{n:Nat}{M:Mem}(h:cq n M=true){B:a1}(bU:B.under n=true)(i:Nat):cq n (M.set i B)=true:=
 Oa fun C TW=>by
  rcases List.mem_or_eq_of_mem_set TW with aa|rfl
  . obtain⟨q,aG⟩:=ir aa
    exact VZ h q C aG
  . exact bU
section
variable{M:Mem}{h a ver:Nat}{l j:List cj}{p:Int}
theorem rD:(cP M h a l j ver p).length=M.length:=by simp[cP]
theorem vl(H:lv M h a):(cP M h a l j ver p)[h]? =some (pg a ver l.length p):=by
 rw[cP,eB (by rw[eR];exact H.aj)]
theorem tP(H:lv M h a):(cP M h a l j ver p)[a]? =some (.arr 4 ((l++j).map h4) ver 0):=by
 rw[cP,dv H.ne,eB H.Bc]
theorem Uj{i:Nat}(aa:i≠h)(af:i≠a):(cP M h a l j ver p)[i]? =M[i]? :=by
 rw[cP,dv aa.symm,dv af.symm]
theorem tQ(H:lv M h a):cq M.length (cP M h a l j ver p)=true:=
 Ax (Ax H.own rfl a) (by have:=H.Bc;simp[pg,a1.under,cT,V.under];exact this) h
theorem aIc(M:Mem)(h a:Nat)(l j:List cj)(ver:Nat)(p:Int)(A B:a1)(cD:h≠a):((cP M h a l j ver p).set a A).set h B=(M.set a A).set h B:=by
 refine oT fun q=>?_;simp only[cP,List.getElem?_set,eR];split
 . rfl
 . split
   . rfl
   . rfl
theorem Uk(cD:h≠a){l' j':List cj}(ag:l'.length=l.length):(cP M h a l j ver p).set a (.arr 4 ((l'++j').map h4) ver 0)=cP M h a l' j' ver p:=by
 refine oT fun q=>?_;simp only[cP,List.getElem?_set,eR,ag];by_cases aa:a=q
 . subst aa
   rw[if_pos rfl,if_neg cD,if_pos rfl]
 . rw[if_neg aa]
   split
   . rfl
   . rfl
theorem Ul(cD:h≠a){l' j':List cj}{p':Int}(he:l++j=l'++j'):(cP M h a l j ver p).set h (pg a ver l'.length p')=cP M h a l' j' ver p':=by
 rw[cP,cP,List.set_set,he]
end
theorem e1(i o:Nat):nS (.ptr i o)=some (.ptr i o):=rfl
theorem w4(i o:Nat):dN .eql .ptr (.ptr i o) .dE=some (.bool false):=rfl
theorem XF{α:Type}(l:List α):l.take l.length=l:=gB
theorem i1{α:Type}(M L:List α)(i:Nat):(M++L)[M.length+i]? =L[i]? :=by
 rw[j_ (by omega),Nat.add_sub_cancel_left]
theorem lj{α:Type}(M L:List α)(i:Nat)(x:α):(M++L).set (M.length+i) x=M++L.set i x:=by
 rw[List.set_append,if_neg (by omega),Nat.add_sub_cancel_left]
theorem jM{α:Type}(M L:List α)(x:α):(M++L).set M.length x=M++L.set 0 x:=by
 rw[List.set_append,if_neg (by omega),mS]
theorem nV{α:Type}{M:List α}{i:Nat}(h:i<M.length)(L:List α)(x:α):(M++L).set i x=M.set i x++L:=by
 rw[List.set_append,if_pos h]
theorem Aw{α β:Type}{f:α->β}{l j:List α}{i:Nat}{x:α}(h:l[i]? =some x):((l++j).map f)[i]? =some (f x):=by
 rw[gX,gp (bo.1 h).1,h];rfl
theorem Lr{M:Mem}{h a ver:Nat}{l j:List cj}{p:Int}(H:lv M h a){i k:Nat}{x y:cj}(hi:l[i]? =some x)(ao:l[k]? =some y):
 b9 au xX [.ptr h 0,.int .i64 i,.int .i64 k] (cP M h a l j ver p) (fun v ah=>v=.bool (wd x y)/\ah=cP M h a l j ver p):=by
 have fp:=vl (l:=l) (j:=j) (ver:=ver) (p:=p) H;have bW:=tP (l:=l) (j:=j) (ver:=ver) (p:=p) H;have b8:=tQ (l:=l) (j:=j) (ver:=ver) (p:=p) H;have cN:=rD (M:=M) (h:=h) (a:=a) (l:=l) (j:=j) (ver:=ver) (p:=p);rw[<-cN] at b8;clear cN;generalize dc:cP M h a l j ver p=N at*;have cz:=fun L=>bY fp L;have c2:=fun L=>bY bW L;have dw:=Aw (f:=h4) (j:=j) hi;have mW:=Aw (f:=h4) (j:=j) ao;have gj:=fun L=>i1 N L;have kh:=fun L=>lj N L;have eS:=fun L=>eT N L;have kz:=fun L=>jM N L;have eX:i<l.length:=(bo.1 hi).1;have g1:k<l.length:=(bo.1 ao).1;have rg:decide (i<l.length)=true:=decide_eq_true eX;have wU:decide (k<l.length)=true:=decide_eq_true g1;have wV:decide (l.length<=l.length+j.length)=true:=decide_eq_true (by omega);have dy:=XF N;have t2:∀L:Mem,(N++L).take N.length=N:=fun L=>jP rfl L;have le:∀L:Mem,decide (N.length<=N.length+L.length)=true:=fun L=>decide_eq_true (by omega);simp only[pg,h4] at fp cz dw mW;refine bP aFI (by simp[Gt]) ?_;simp-implicitDefEqProofs (disch:=omega) only[go_sem,Gt,e1,fp,bW,cz,c2,dw,mW,gj,kh,eS,kz,rg,wU,wV,en];refine fw (Xb x.1 y.1) ?_;rintro v rfl;simp-implicitDefEqProofs (disch:=omega) only[go_sem];refine ck (fun aT=>?_) (fun aT=>?_)
 . simp-implicitDefEqProofs (disch:=omega) only[go_sem,t2,b8]
   simp[wd,aT]
 simp-implicitDefEqProofs (disch:=omega) only[go_sem,e1,cz,gj,eS];refine fw (Xb y.1 x.1) ?_;rintro v rfl;simp-implicitDefEqProofs (disch:=omega) only[go_sem];refine ck (fun a2=>?_) (fun a2=>?_)
 . simp-implicitDefEqProofs (disch:=omega) only[go_sem,t2,b8]
   simp[wd,aT,a2]
 simp-implicitDefEqProofs (disch:=omega) only[go_sem,gj,eS,t2,b8];simp[wd,aT,a2]
theorem O4{M:Mem}{h a ver:Nat}{l j:List cj}{p:Int}(H:lv M h a){i k:Nat}{x y:cj}(hi:l[i]? =some x)(ao:l[k]? =some y):
 b9 au vS [.ptr h 0,.int .i64 i,.int .i64 k] (cP M h a l j ver p) (fun v ah=>v=.tuple []/\ah=cP M h a ((l.set i y).set k x) j ver p):=by
 have fp:=vl (l:=l) (j:=j) (ver:=ver) (p:=p) H;have bW:=tP (l:=l) (j:=j) (ver:=ver) (p:=p) H;have hlen:=rD (M:=M) (h:=h) (a:=a) (l:=l) (j:=j) (ver:=ver) (p:=p);have eX:i<l.length:=(bo.1 hi).1;have g1:k<l.length:=(bo.1 ao).1;have R2:∀(q:Nat)(z:cj)(l:List cj),q<l.length->((l++j).map h4).set q (h4 z)=(l.set q z++j).map h4:=fun q z l aG=>by
  rw[<-List.map_set,List.set_append,if_pos aG]
 have s1:(cP M h a l j ver p).set a (.arr 4 (((l++j).map h4).set i (h4 y)) ver 0)=cP M h a (l.set i y) j ver p:=by
  rw[R2 i y l eX,Uk H.ne (eR)]
 have dq:(cP M h a (l.set i y) j ver p).set a (.arr 4 (((l.set i y++j).map h4).set k (h4 x)) ver 0)=cP M h a ((l.set i y).set k x) j ver p:=by
  rw[R2 k x _ (by rw[eR];exact g1),Uk H.ne (eR)]
 have abh:=vl (l:=l.set i y) (j:=j) (ver:=ver) (p:=p) H;have Le:=tP (l:=l.set i y) (j:=j) (ver:=ver) (p:=p) H;have own:=tQ (l:=(l.set i y).set k x) (j:=j) (ver:=ver) (p:=p) H;have Ng:=rD (M:=M) (h:=h) (a:=a) (l:=(l.set i y).set k x) (j:=j) (ver:=ver) (p:=p);have dw:=Aw (f:=h4) (j:=j) hi;have mW:=Aw (f:=h4) (j:=j) ao;obtain⟨z,a_⟩:∃z,(l.set i y)[k]? =some z:=⟨(l.set i y)[k]'(by rw[eR];exact g1),by simp⟩;have gj:=Aw (f:=h4) (j:=j) a_;have rg:decide (i<l.length)=true:=decide_eq_true eX;have wU:decide (k<l.length)=true:=decide_eq_true g1;have wV:decide (l.length<=l.length+j.length)=true:=decide_eq_true (by omega);have dy:List.take M.length (cP M h a ((l.set i y).set k x) j ver p)=cP M h a ((l.set i y).set k x) j ver p:=g_ (by rw[Ng];exact cH _);simp only[pg,h4,eR] at fp dw mW gj s1 dq abh;refine bP aFK (by simp[Gv]) ?_;simp-implicitDefEqProofs (disch:=omega) only[go_sem,Gv,e1,fp,bW,dw,mW,gj,rg,wU,wV,s1,dq,Le,eR];rw[hlen];exact⟨by rw[dy];exact own,dy⟩
end Go.aL.C
namespace Go.aL.C
open Go.aL
def sl(x y:cj):Prop:=x.1.len<y.1.len∨(x.1.len=y.1.len/\(x.1.ec<y.1.ec∨(x.1.ec=y.1.ec/\x.2<y.2)))
def jw(x y:cj):Prop:=¬sl y x
theorem Ks(x y:cj):wd x y=true↔sl x y:=by
 simp only[wd,yy,sl,Bool.or_eq_true,cc,lV,Bool.or_eq_false_iff,Bool.and_eq_false_iff,decide_eq_true_eq,decide_eq_false_iff_not];omega
theorem ON{x y:cj}(h:wd x y=false):jw y x:=fun e=>by
 rw[<-Ks,h] at e;cases e
theorem E5{x y z:cj}(aa:jw x y)(af:jw y z):jw x z:=by
 unfold jw sl at*;omega
theorem E6{x y:cj}(h:sl x y):jw x y:=by
 unfold jw sl at*;omega
theorem E4(x:cj):jw x x:=by
 unfold jw sl;omega
def nm(l:List cj):Prop:=∀(i:Nat)(x y:cj),0<i->l[i]? =some x->l[(i -1)/2]? =some y->jw y x
def wC(l:List cj)(i:Nat):Prop:=(∀(j:Nat)(x y:cj),0<j->j≠i->l[j]? =some x->l[(j -1)/2]? =some y->jw y x)/\
 ∀(j:Nat)(x z:cj),0<i->0<j->(j -1)/2=i->l[j]? =some x->l[(i -1)/2]? =some z->jw z x
def uS(l:List cj)(i:Nat):Prop:=(∀(j:Nat)(x y:cj),0<j->(j -1)/2≠i->l[j]? =some x->l[(j -1)/2]? =some y->jw y x)/\
 ∀(j:Nat)(x z:cj),0<i->0<j->(j -1)/2=i->l[j]? =some x->l[(i -1)/2]? =some z->jw z x
def sc{α:Type}(l:List α)(i k:Nat)(x y:α):List α:=(l.set i y).set k x
theorem yF{α:Type}{l:List α}{i k:Nat}{x y:α}(hi:l[i]? =some x)(ao:l[k]? =some y)(q:Nat):(sc l i k x y)[q]? =if q=k then some x else if q=i then some y else l[q]? :=by
 have eX:=(bo.1 hi).1;have g1:=(bo.1 ao).1;rw[sc,List.getElem?_set,List.getElem?_set,eR];by_cases aa:q=k
 . subst aa;rw[if_pos rfl,if_pos g1,if_pos rfl]
 . rw[if_neg (gq aa),if_neg aa]
   by_cases af:q=i
   . subst af;rw[if_pos rfl,if_pos eX,if_pos rfl]
   . rw[if_neg (gq af),if_neg af]
theorem O2{α:Type}(l:List α)(i k:Nat)(x y:α):(sc l i k x y).length=l.length:=by simp[sc]
theorem O3{α:Type}{l:List α}{i k:Nat}{x y:α}(hi:l[i]? =some x)(ao:l[k]? =some y)(z:α):z∈sc l i k x y↔z∈l:=by
 constructor
 . intro h
   obtain⟨q,aG⟩:=ir h;rw[yF hi ao] at aG;split at aG
   . cases aG;exact dQ hi
   . split at aG
     . cases aG;exact dQ ao
     . exact dQ aG
 . intro h
   obtain⟨q,aG⟩:=ir h;by_cases aa:q=i
   . subst aa
     rw[hi] at aG;cases aG;exact dQ (i:=k) (by rw[yF hi ao,if_pos rfl])
   . by_cases af:q=k
     . subst af
       rw[ao] at aG;cases aG;exact dQ (i:=i) (by rw[yF hi ao,if_neg (gq aa),if_pos rfl])
     . exact dQ (i:=q) (by rw[yF hi ao,if_neg af,if_neg aa];exact aG)
theorem aPZ{l:List cj}{i:Nat}{x y:cj}(h:wC l i)(zO:0<i)(hi:l[i]? =some x)(ao:l[(i -1)/2]? =some y)(bx:sl x y):wC (sc l i ((i -1)/2) x y) ((i -1)/2):=by
 obtain⟨aa,af⟩:=h;have g:=yF hi ao;generalize ay:(i -1)/2=p at*;have sR:p≠i:=by omega
 refine⟨fun j u v ap xB hu aq=>?_,fun j u z sQ ap xB hu a_=>?_⟩
 . rw[g,if_neg xB] at hu
   rw[g] at aq;by_cases eE:j=i
   . rw[if_pos eE] at hu;cases hu
     rw[eE,ay,if_pos rfl] at aq;cases aq;exact E6 bx
   . rw[if_neg eE] at hu
     by_cases aG:(j -1)/2=p
     . rw[if_pos aG] at aq;cases aq
       have:=aa j u y ap eE hu (by rw[aG];exact ao);exact E5 (E6 bx) this
     . rw[if_neg aG] at aq
       by_cases t8:(j -1)/2=i
       . rw[if_pos t8] at aq;cases aq
         exact af j u y zO ap t8 hu ao
       . rw[if_neg t8] at aq
         exact aa j u v ap eE hu aq
 . have Dt:(p -1)/2≠p:=by omega
   have aJM:(p -1)/2≠i:=by omega
   rw[g,if_neg Dt,if_neg aJM] at a_;have Vh:=aa p y z sQ sR ao a_;rw[g] at hu;have aI9:j≠p:=by omega
   rw[if_neg aI9] at hu;by_cases eE:j=i
   . rw[if_pos eE] at hu;cases hu
     exact Vh
   . rw[if_neg eE] at hu
     exact E5 Vh (aa j u y ap eE hu (by rw[xB];exact ao))
theorem X5{l:List cj}{i:Nat}(h:wC l i)(aw:∀x y,0<i->l[i]? =some x->l[(i -1)/2]? =some y->jw y x):nm l:=fun j x y ap ad aE=>by
 by_cases eE:j=i
 . subst eE;exact aw x y ap ad aE
 . exact h.1 j x y ap eE ad aE
theorem aDQ{l:List cj}{i k:Nat}{x y:cj}(h:uS l i)(m2:0<k)(gH:(k -1)/2=i)(hi:l[i]? =some x)(ao:l[k]? =some y)(sN:∀j z,0<j->(j -1)/2=i->l[j]? =some z->jw y z)(bx:sl y x):uS (sc l i k x y) k:=by
 obtain⟨aa,af⟩:=h;have g:=yF hi ao;have cD:k≠i:=by omega
 refine⟨fun j u v ap xB hu aq=>?_,fun j u z aRA ap xB hu a_=>?_⟩
 . rw[g] at hu aq
   rw[if_neg xB] at aq;by_cases aG:(j -1)/2=i
   . rw[if_pos aG] at aq;cases aq
     by_cases vt:j=k
     . rw[if_pos vt] at hu;cases hu
       exact E6 bx
     . rw[if_neg vt,if_neg (by omega)] at hu
       exact sN j u ap aG hu
   . rw[if_neg aG] at aq
     have vt:j≠k:=fun e=>aG (by rw[e];exact gH);rw[if_neg vt] at hu;by_cases eE:j=i
     . rw[if_pos eE] at hu;cases hu
       rw[eE] at aq;exact af k y v (by omega) m2 gH ao aq
     . rw[if_neg eE] at hu
       exact aa j u v ap aG hu aq
 . rw[gH,g,if_neg (gq cD),if_pos rfl] at a_
   cases a_;rw[g,if_neg (by omega),if_neg (by omega)] at hu;exact aa j u y ap (by omega) hu (by rw[xB];exact ao)
theorem RU{l:List cj}{i:Nat}(h:uS l i)(aw:∀j x y,0<j->(j -1)/2=i->l[i]? =some x->l[j]? =some y->jw x y):nm l:=fun j x y ap ad aE=>by
 by_cases eE:(j -1)/2=i
 . rw[eE] at aE;exact aw j y x ap eE aE ad
 . exact h.1 j x y ap eE ad aE
theorem WV{l:List cj}(h:nm l){x:cj}(a8:l[0]? =some x):∀(i:Nat)(y:cj),l[i]? =some y->jw x y
 |0,y,aE=>by rw[a8] at aE;cases aE;exact E4 _
 |i+1,y,aE=>by
  have bx:(i+1 -1)/2<l.length:=by have:=(bo.1 aE).1;omega
  have aa:l[(i+1 -1)/2]? =some l[(i+1 -1)/2]:=gg bx;exact E5 (WV h a8 _ _ aa) (h (i+1) y _ (by omega) aE aa)
 termination_by i=>i
end Go.aL.C
namespace Go.aL.C
open Go.aL
theorem aO3{M:Mem}{h a ver:Nat}{l j:List cj}{p:Int}(H:lv M h a)(aj:l.length<=1000000000):
 b9 au DX [.ptr h 0] (cP M h a l j ver p) (fun v ah=>v=.tuple []/\∃l',ah=cP M h a l' j ver p/\l'.length=l.length/\(∀z,z∈l'↔z∈l)/\(uS l 0->nm l')):=by
 have fp:=fun l':List cj=>vl (M:=M) (h:=h) (a:=a) (l:=l') (j:=j) (ver:=ver) (p:=p) H;have bW:=fun l':List cj=>tP (M:=M) (h:=h) (a:=a) (l:=l') (j:=j) (ver:=ver) (p:=p) H;have own:=fun l':List cj=>tQ (M:=M) (h:=h) (a:=a) (l:=l') (j:=j) (ver:=ver) (p:=p) H;have hlen:=fun l':List cj=>rD (M:=M) (h:=h) (a:=a) (l:=l') (j:=j) (ver:=ver) (p:=p);have dy:=fun l':List cj=>jP (hlen l') [];simp only[fA] at dy;simp only[pg] at fp;refine bP aFJ (by simp[Gu]) ?_;simp-implicitDefEqProofs (disch:=omega) only[go_sem,Gu,hlen];refine lT (fun m vs N=>∃(i:Nat)(l':List cj),m=l.length -i/\vs=[.ptr h 0,.int .i64 i]/\N=cP M h a l' j ver p/\l'.length=l.length/\(∀z,z∈l'↔z∈l)/\i<=l.length/\(uS l 0->uS l' i)) l.length
  ⟨0,l,rfl,rfl,rfl,rfl,fun _=>Iff.rfl,fR _,id⟩ ?_;rintro m vs N ⟨i,l',rfl,rfl,rfl,er,gI,km,gl⟩;have a4:(2*(i:Int)+1)=((2*i+1:Nat):Int):=by omega
 have cz:=fp l';have c2:=bW l';have dw:=own l';have mW:=dy l';rw[er] at cz;simp-implicitDefEqProofs (disch:=omega) only[go_sem,e1,cz,c2,a4];refine a5 (fun aT=>?_) (fun aT=>?_)
 . simp-implicitDefEqProofs (disch:=omega) only[go_sem,hlen,dw,mW]
   refine⟨l',rfl,er,gI,fun a8=>RU (gl a8) fun q x y aG vC _ aE=>?_⟩;have:=(bo.1 aE).1;omega
 have i8:2*i+1<l'.length:=by omega
 obtain⟨x,ad⟩:∃x,l'[i]? =some x:=⟨l'[i]'(by omega),by simp⟩;obtain⟨qT,z2⟩:∃y,l'[2*i+1]? =some y:=⟨l'[2*i+1],by simp⟩;have bd:(((2*i+1:Nat):Int)+1)=((2*i+2:Nat):Int):=by omega
 simp-implicitDefEqProofs (disch:=omega) only[go_sem,e1,cz,c2,bd];refine a5 (fun a2=>?_) (fun a2=>?_);rotate_left;have sN:∀q z,0<q->(q -1)/2=i->l'[q]? =some z->jw qT z:=fun q z aG vC a_=>by
  have:=(bo.1 a_).1;have e:q=2*i+1:=by omega
  subst e;rw[z2] at a_;cases a_;exact E4 _
 have l_:(2*i+1 -1)/2=i:=by omega
 have m2:0<2*i+1:=by omega
 have tW:=z2;have gO:=i8;generalize 2*i+1=k at sN l_ m2 tW gO⊢;simp-implicitDefEqProofs (disch:=omega) only[go_sem];rotate_left;obtain⟨EV,H8⟩:∃y,l'[2*i+2]? =some y:=⟨l'[2*i+2]'(by omega),by simp⟩;simp-implicitDefEqProofs (disch:=omega) only[go_sem,bd];refine ew (Lr H H8 z2) ?_;rintro v _ ⟨rfl,rfl⟩;simp-implicitDefEqProofs (disch:=omega) only[go_sem];refine ck (fun bJ=>?_) (fun bJ=>?_);have sN:∀q z,0<q->(q -1)/2=i->l'[q]? =some z->jw EV z:=fun q z aG vC a_=>by
  have e:q=2*i+1∨q=2*i+2:=by omega
  rcases e with rfl|rfl
  . rw[z2] at a_;cases a_;exact E6 ((Ks _ _).1 bJ)
  . rw[H8] at a_;cases a_;exact E4 _
 have l_:(2*i+2 -1)/2=i:=by omega
 have m2:0<2*i+2:=by omega
 have gO:2*i+2<l'.length:=by omega
 simp-implicitDefEqProofs (disch:=omega) only[go_sem,bd];have tW:=H8;generalize 2*i+2=k at sN l_ m2 tW gO⊢;rotate_left;have sN:∀q z,0<q->(q -1)/2=i->l'[q]? =some z->jw qT z:=fun q z aG vC a_=>by
  have e:q=2*i+1∨q=2*i+2:=by omega
  rcases e with rfl|rfl
  . rw[z2] at a_;cases a_;exact E4 _
  . rw[H8] at a_;cases a_;exact ON bJ
 have l_:(2*i+1 -1)/2=i:=by omega
 have m2:0<2*i+1:=by omega
 simp-implicitDefEqProofs (disch:=omega) only[go_sem];have tW:=z2;have gO:=i8;generalize 2*i+1=k at sN l_ m2 tW gO⊢;rotate_left;all_goals
  refine ew (Lr H tW ad) ?_;rintro v _ ⟨rfl,rfl⟩;simp-implicitDefEqProofs (disch:=omega) only[go_sem];refine ck (fun c8=>?_) (fun c8=>?_);rotate_left
  . simp-implicitDefEqProofs (disch:=omega) only[go_sem,hlen,dw,mW]
    refine⟨l',rfl,er,gI,fun a8=>RU (gl a8) fun q u z aG vC hu a_=>?_⟩;rw[ad] at hu;cases hu;exact E5 (ON c8) (sN q z aG vC a_)
  simp-implicitDefEqProofs (disch:=omega) only[go_sem];refine ew (O4 H ad tW) ?_;rintro v _ ⟨rfl,rfl⟩;simp-implicitDefEqProofs (disch:=omega) only[go_sem,hlen];refine uB (l.length -k) (by omega) ⟨k,sc l' i k x _,rfl,rfl,rfl,by rw[O2];exact er,fun z=>(O3 ad tW z).trans (gI z),by omega,fun a8=>aDQ (gl a8) m2 l_ ad tW sN ((Ks _ _).1 c8)⟩
end Go.aL.C
namespace Go.aL.C
open Go.aL
mutual
theorem wt{n m:Nat}(h:n<=m):∀v:V,v.under n=true->v.under m=true
 |.ptr _ _,aq=>by simp only[V.under,decide_eq_true_eq] at aq⊢;omega
 |.fq _ _ _ _,aq=>by simp only[V.under,decide_eq_true_eq] at aq⊢;omega
 |.aZ _ _ _ _,aq=>by simp only[V.under,decide_eq_true_eq] at aq⊢;omega
 |.map _,aq=>by simp only[V.under,decide_eq_true_eq] at aq⊢;omega
 |.fn _ c3,aq=>by simp only[V.under] at aq⊢;exact ws h c3 aq
 |.agg cells,aq=>by simp only[V.under] at aq⊢;exact ws h cells aq
 |.tuple vs,aq=>by simp only[V.under] at aq⊢;exact ws h vs aq
 |.undef,_=>rfl
 |.bool _,_=>rfl
 |.int _ _,_=>rfl
 |.str _,_=>rfl
 |.dE,_=>rfl
 |.gz,_=>rfl
 |.jJ,_=>rfl
 |.slice _ _,_=>rfl
 |.gA _,_=>rfl
 |.c7 _,_=>rfl
 |.dF _ _,_=>rfl
theorem ws{n m:Nat}(h:n<=m):∀vs:List V,cT n vs=true->cT m vs=true
 |[],_=>rfl
 |v::vs,aq=>by
  simp only[cT,cc] at aq⊢;exact⟨wt h v aq.1,ws h vs aq.2⟩
end
theorem X1{n m:Nat}(h:n<=m):∀es:List (V×V),ni n es=true->ni m es=true
 |[],_=>rfl
 |(k,v)::es,aq=>by
  simp only[ni,cc] at aq⊢;exact⟨wt h v aq.1,X1 h es aq.2⟩
theorem nO{n m:Nat}(h:n<=m):∀M:Mem,cq n M=true->cq m M=true
 |[],_=>rfl
 |B::M,aq=>by
  simp only[cq,cc] at aq⊢;refine⟨?_,nO h M aq.2⟩;cases B with
  |box cells=>exact ws h cells aq.1
  |arr _ _ _ _=>rfl
  |map es=>exact X1 h es aq.1
  |vec cells _=>exact ws h cells aq.1
  |iter mid _ _=>simp only[a1.under,decide_eq_true_eq] at aq⊢;omega
  |dead=>rfl
theorem nN(n:Nat):∀M L:Mem,cq n (M++L)=(cq n M&&cq n L)
 |[],L=>by simp[cq]
 |B::M,L=>by simp[cq,nN n M L,Bool.and_assoc]
theorem lv.app{M:Mem}{h a:Nat}(H:lv M h a){L:Mem}(cV:cq (M.length+L.length) L=true):lv (M++L) h a:=
 ⟨by rw[dz];have:=H.aj;omega,by rw[dz];have:=H.Bc;omega,H.ne,by
   rw[nN,dz,nO (Nat.le_add_right _ _) M H.own,cV];rfl⟩
theorem qj{M:Mem}{h a ver:Nat}{l j:List cj}{p:Int}(H:lv M h a)(L:Mem):cP M h a l j ver p++L=cP (M++L) h a l j ver p:=by
 rw[cP,cP,nV H.Bc,nV (by rw[eR];exact H.aj)]
theorem Zl{M:Mem}{h a ver:Nat}{l j:List cj}{p:Int}(H:lv M h a):
 b9 au DW [.ptr h 0] (cP M h a l j ver p) (fun v ah=>v=.int .i64 l.length/\ah=cP M h a l j ver p):=by
 have fp:=vl (l:=l) (j:=j) (ver:=ver) (p:=p) H;have bW:=tP (l:=l) (j:=j) (ver:=ver) (p:=p) H;have own:=tQ (l:=l) (j:=j) (ver:=ver) (p:=p) H;have hlen:=rD (M:=M) (h:=h) (a:=a) (l:=l) (j:=j) (ver:=ver) (p:=p);have dy:=jP hlen [];simp only[fA] at dy;simp only[pg] at fp;refine bP aFG (by simp[Gr]) ?_;simp-implicitDefEqProofs (disch:=omega) only[go_sem,Gr,e1,w4,fp,bW,hlen,own,dy]
def pL(l:List cj):V:=match l with|[]=>.tuple [.agg [.int .i64 0,.int .i64 0,.int .i64 0],.bool false]|x::_=>.tuple [.agg x.1.cells,.bool true]
theorem PU{M:Mem}{h a ver:Nat}{l j:List cj}{p:Int}(H:lv M h a):
 b9 au z9 [.ptr h 0] (cP M h a l j ver p) (fun v ah=>v=pL l/\ah=cP M h a l j ver p):=by
 have own:=tQ (l:=l) (j:=j) (ver:=ver) (p:=p) H;have hlen:=rD (M:=M) (h:=h) (a:=a) (l:=l) (j:=j) (ver:=ver) (p:=p);have dy:=fun L=>jP hlen L;have aHi:∀L:Mem,cq (M.length+L.length) L=true->b9 au DW [.ptr h 0] (cP M h a l j ver p++L) (fun v ah=>v=.int .i64 l.length/\ah=cP M h a l j ver p++L):=fun L cV=>by
  rw[qj H];exact Zl (H.app cV)
 have fp:=vl (l:=l) (j:=j) (ver:=ver) (p:=p) H;have bW:=tP (l:=l) (j:=j) (ver:=ver) (p:=p) H;have cz:=fun L=>bY fp L;have c2:=fun L=>bY bW L;have gj:=fun L=>i1 (cP M h a l j ver p) L;have kh:=fun L=>lj (cP M h a l j ver p) L;have eS:=fun L=>eT (cP M h a l j ver p) L;have kz:=fun L=>jM (cP M h a l j ver p) L;simp only[hlen] at gj kh eS kz;simp only[pg] at cz;have hle:decide (M.length<=M.length+2)=true:=decide_eq_true (by omega);refine bP aFH (by simp[Gs]) ?_;simp-implicitDefEqProofs (disch:=omega) only[go_sem,Gs,hlen,en];refine ew (aHi _ (by simp[cq,a1.under,cT,V.under])) ?_;rintro v _ ⟨rfl,rfl⟩;simp-implicitDefEqProofs (disch:=omega) only[go_sem];refine a5 (fun g=>?_) (fun g=>?_)
 . have ag:l=[]:=List.length_eq_zero_iff.1 (by omega)
   subst ag;simp-implicitDefEqProofs (disch:=omega) only[go_sem,hlen,gj,eS,kz,dy,own,pL,hle]
 . cases l with
   |nil=>exact absurd rfl g
   |cons x l=>
    have dw:=Aw (f:=h4) (j:=j) (l:=x::l) (i:=0) rfl;have rg:decide (0<(x::l).length)=true:=rfl;have wV:decide ((x::l).length<=(x::l).length+j.length)=true:=decide_eq_true (by omega);simp only[h4] at dw;simp only[dC] at rg wV cz;simp-implicitDefEqProofs (disch:=omega) only[go_sem,e1,hlen,cz,c2,eS,kz,dy,own,pL,hle,rg,dp.cells,h4]
end Go.aL.C
namespace Go.aL.C
open Go.aL
theorem WA{N:Mem}{a ver n k sz:Nat}{rows:List (List V)}{fz:Nat}(a9:N[a]? =some (.arr sz rows ver fz))(aK:n<=rows.length)(ao:k<=n):
 hf sz (.aZ a ver 0 n) none (some (.int .i64 (k:Int))) none N=some (.aZ a ver 0 k):=by
 have d1:decide (0<=(k:Int))=true:=decide_eq_true (by omega);simp only[hf,a9,iG,d1,cond_true,kU,beq_self_eq_true,ee,decide_eq_true aK,fR,decide_true,decide_eq_true ao,cH,eQ,Nat.sub_zero]
structure Fb(l:List cj)(x:cj)(l':List cj):Prop where
 len:l'.length+1=l.length
 mem:∀z,z∈l->z=x∨z∈l'
 sub:∀z,z∈l'->z∈l
 min:∀z,z∈l->jw x z
 ay:nm l'
theorem aaV{M:Mem}{h a ver:Nat}{r j:List cj}{x:cj}{p:Int}(H:lv M h a)(aj:(x::r).length<=1000000000)(ay:nm (x::r)):
 b9 au xV [.ptr h 0] (cP M h a (x::r) j ver p) (fun v ah=>v=pL (x::r)/\∃l' j',ah=cP M h a l' j' ver p/\Fb (x::r) x l'):=by
 have hlen:=fun(l j:List cj)(M:Mem)=>rD (M:=M) (h:=h) (a:=a) (l:=l) (j:=j) (ver:=ver) (p:=p);have MF:∀L:Mem,cq (M.length+L.length) L=true->b9 au z9 [.ptr h 0] (cP M h a (x::r) j ver p++L) (fun v ah=>v=pL (x::r)/\ah=cP M h a (x::r) j ver p++L):=fun L cV=>by
  rw[qj H];exact PU (H.app cV)
 obtain⟨y,aE⟩:∃y,(x::r)[r.length]? =some y:=⟨(x::r)[r.length]'(by simp),by simp⟩;have a8:(x::r)[0]? =some x:=rfl;have aB:=yF a8 aE;have eA:=O2 (x::r) 0 r.length x y;have vx:=O3 a8 aE;generalize fc:sc (x::r) 0 r.length x y=cZ at*;have sM:cZ[r.length]? =some x:=by rw[aB,if_pos rfl]
 have Dh:cZ.length=r.length+1:=by rw[eA];rfl
 have U5:cZ=cZ.take r.length++[x]:=by
  calc cZ=cZ.take (r.length+1):=(g_ (by omega)).symm
   _=cZ.take r.length++[x]:=by rw[iu,sM];rfl
 have MG:∀L:Mem,cq (M.length+L.length) L=true->b9 au vS [.ptr h 0,.int .i64 0,.int .i64 (r.length:Int)] (cP M h a (x::r) j ver p++L) (fun v ah=>v=.tuple []/\ah=cP M h a cZ j ver p++L):=fun L cV=>by
  rw[qj H,qj H,<-fc];exact O4 (H.app cV) a8 aE
 have Nf:(cZ.take r.length).length=r.length:=by rw[iS];omega
 have aHA:∀L:Mem,cq (M.length+L.length) L=true->b9 au DX [.ptr h 0] (cP M h a (cZ.take r.length) (x::j) ver p++L) (fun v ah=>v=.tuple []/\∃l',ah=cP M h a l' (x::j) ver p++L/\l'.length=(cZ.take r.length).length/\(∀z,z∈l'↔z∈cZ.take r.length)/\(uS (cZ.take r.length) 0->nm l')):=fun L cV=>by
  rw[qj H];refine b9.mono (aO3 (H.app cV) (by rw[Nf];simp only[dC] at aj;omega)) ?_;rintro v ah ⟨aa,l',af,az⟩;exact⟨aa,l',by rw[qj H];exact af,az⟩
 have aw:uS (cZ.take r.length) 0:=by
  have get:∀q,q<r.length->0<q->(cZ.take r.length)[q]? =(x::r)[q]? :=fun q aG a8=>by
   rw[hA aG,aB,if_neg (by omega),if_neg (by omega)]
  refine⟨fun q u v aG aRK hu aq=>?_,fun q u v TU=>absurd TU (by omega)⟩;have Dv:q<r.length:=by have:=(bo.1 hu).1;omega
  rw[get q Dv aG] at hu;rw[get _ (by omega) (by omega)] at aq;exact ay q u v aG hu aq
 have cz:∀(l j:List cj)(L:Mem),(cP M h a l j ver p++L)[h]? =some (.box [.dF j1 [],.aZ a ver 0 l.length,.int .i64 p]):=fun l j L=>bY (vl H) L;have c2:∀(l j:List cj)(L:Mem),(cP M h a l j ver p++L)[a]? =some (.arr 4 ((l++j).map h4) ver 0):=fun l j L=>bY (tP H) L;have gj:=fun(l j:List cj) L=>i1 (cP M h a l j ver p) L;have kh:=fun(l j:List cj) L=>lj (cP M h a l j ver p) L;have eS:=fun(l j:List cj) L=>eT (cP M h a l j ver p) L;have kz:=fun(l j:List cj) L=>jM (cP M h a l j ver p) L;simp only[hlen] at gj kh eS kz;have dy:=fun(l j:List cj) L=>jP (hlen l j M) L;have own:=fun(l j:List cj)=>tQ (l:=l) (j:=j) (ver:=ver) (p:=p) H;have hle:∀L:Mem,decide (M.length<=M.length+L.length)=true:=fun L=>decide_eq_true (by omega);have OW:∀L:Mem,hf 4 (.aZ a ver 0 (r.length+1)) none (some (.int .i64 (r.length:Int))) none (cP M h a cZ j ver p++L)=some (.aZ a ver 0 r.length):=fun L=>
  WA (c2 cZ j L) (by rw[eu,dz];omega) (by omega);have st:∀L:Mem,(cP M h a cZ j ver p++L).set h (.box [.dF j1 [],.aZ a ver 0 r.length,.int .i64 p])=cP M h a (cZ.take r.length) (x::j) ver p++L:=fun L=>by
  have e:=Ul (M:=M) (h:=h) (a:=a) (ver:=ver) (l:=cZ) (j:=j) (p:=p) (l':=cZ.take r.length) (j':=x::j) (p':=p) H.ne (by have:=congrArg (·++j) U5;simpa using this);rw[pg,Nf] at e;rw[nV (by rw[hlen];exact H.aj),e]
 have mf:(((r.length+1:Nat):Int) -1)=(r.length:Int):=by omega
 have aR2:∀cells:List V,cT 0 cells=true->∀n,cT n cells=true:=fun cells ar n=>ws (fR _) cells ar;refine bP S1 (by simp[zt]) ?_;simp-implicitDefEqProofs (disch:=omega) only[go_sem,zt,hlen];refine ew (MF _ (by simp[cq,a1.under,cT,V.under])) ?_;rintro v _ ⟨rfl,rfl⟩;simp-implicitDefEqProofs (disch:=omega) only[go_sem,hlen,pL,dp.cells,gj,kh,en,e1,cz,c2,mf];refine ew (MG _ (by simp[cq,a1.under,cT,V.under])) ?_;rintro v _ ⟨rfl,rfl⟩;simp-implicitDefEqProofs (disch:=omega) only[go_sem,e1,cz,Dh,OW,st];refine ew (aHA _ (by simp[cq,a1.under,cT,V.under])) ?_;rintro v _ ⟨rfl,l',rfl,bI,ce,dS⟩;simp-implicitDefEqProofs (disch:=omega) only[go_sem,hlen,gj,eS,kz,dy,own];refine⟨rfl,l',x::j,rfl,by rw[bI,Nf];rfl,fun z a_=>?_,fun z a_=>?_,fun z a_=>?_,dS aw⟩
 . have aa:=(vx z).2 a_
   rw[U5,g9] at aa;rcases aa with aa|aa
   . exact .inr ((ce z).2 aa)
   . exact .inl (gZ.1 aa)
 . exact(vx z).1 (List.mem_of_mem_take ((ce z).1 a_))
 . obtain⟨q,aG⟩:=ir a_
   exact WV ay a8 q z aG
end Go.aL.C
namespace Go.aL.C
open Go.aL
theorem aaU{M:Mem}{h a ver:Nat}{j:List cj}{p:Int}(H:lv M h a):
 b9 au xV [.ptr h 0] (cP M h a [] j ver p) (fun v ah=>v=pL []/\ah=cP M h a [] j ver p):=by
 have hlen:=fun(l j:List cj)(M:Mem)=>rD (M:=M) (h:=h) (a:=a) (l:=l) (j:=j) (ver:=ver) (p:=p);have MF:∀L:Mem,cq (M.length+L.length) L=true->b9 au z9 [.ptr h 0] (cP M h a [] j ver p++L) (fun v ah=>v=pL []/\ah=cP M h a [] j ver p++L):=fun L cV=>by
  rw[qj H];exact PU (H.app cV)
 have gj:=fun(l j:List cj) L=>i1 (cP M h a l j ver p) L;have kh:=fun(l j:List cj) L=>lj (cP M h a l j ver p) L;have eS:=fun(l j:List cj) L=>eT (cP M h a l j ver p) L;have kz:=fun(l j:List cj) L=>jM (cP M h a l j ver p) L;simp only[hlen] at gj kh eS kz;have dy:=fun(l j:List cj) L=>jP (hlen l j M) L;have own:=fun(l j:List cj)=>tQ (l:=l) (j:=j) (ver:=ver) (p:=p) H;have hle:∀L:Mem,decide (M.length<=M.length+L.length)=true:=fun L=>decide_eq_true (by omega);refine bP S1 (by simp[zt]) ?_;simp-implicitDefEqProofs (disch:=omega) only[go_sem,zt,hlen];refine ew (MF _ (by simp[cq,a1.under,cT,V.under])) ?_;rintro v _ ⟨rfl,rfl⟩;simp-implicitDefEqProofs (disch:=omega) only[go_sem,hlen,pL,gj,kh,eS,kz,en,dy,own]
theorem aHF(n:Nat)(aK:n<=1000000000):dN .quo .none (.int .i64 (n:Int)) (.int .i64 2)=some (.int .i64 ((n/2:Nat):Int)):=by
 rw[Lw _ _ _ _ (by omega)];have:Int.tdiv (n:Int) 2=((n/2:Nat):Int):=rfl;rw[this,n1 _ (by omega) (by omega)]
theorem aIb{M:Mem}{h a ver:Nat}{l j:List cj}{p:Int}(H:lv M h a)(e:cj)(L:Mem)(aj:l.length<=1000000000):
 dX false 4 32 (.aZ a ver 0 l.length) (.slice [[.int .i64 e.1.node,.int .i64 e.1.len,.int .i64 e.1.ec,.int .i64 e.2]] .full) (cP M h a l j ver p++L)=
  some (.aZ a (ver+1) 0 (l.length+1),(cP M h a l j ver p++L).set a (.arr 4 ((l++[e]).map h4) (ver+1) 0)):=by
 have aa:(cP M h a l j ver p++L)[a]? =some (.arr 4 ((l++j).map h4) ver 0):=bY (tP H) L;have aw:decide ((l.length+1)*64<=2^48)=true:=decide_eq_true (by omega);cases j with
 |nil=>
  have af:(l.length==(l++([]:List cj)).length)=true:=by simp
  have az:(l++([]:List cj)).length=l.length:=by simp
  simp only[dX,eK,fr,dC,gY,ee,beq_self_eq_true,cond_true,g0,aa,eu,az,eQ,Nat.reduceMul,aw];simp[h4]
 |cons q j=>
  have af:(l.length==(l++q::j).length)=false:=by simp
  have az:decide (l.length<=(l++q::j).length)=true:=decide_eq_true (by simp);simp only[dX,eK,fr,dC,gY,ee,beq_self_eq_true,cond_true,cond_false,g0,aa,eu,af,az,eQ,Bool.and_false,oS,Nat.reduceMul,aw,fR,decide_true];simp[h4]
structure La(l:List cj)(e:cj)(l':List cj):Prop where
 len:l'.length=l.length+1
 mem:∀z,z∈l'↔z∈l∨z=e
 ay:nm l->nm l'
theorem WE{M:Mem}{h a ver:Nat}{l0:List cj}{p:Int}{L:Mem}(H:lv M h a)(cV:cq (M.length+L.length) L=true)(aj:l0.length<=1000000000)(aa:0<l0.length)(Q:Exit->aI->Mem->Prop)
 (gw:∀l',l'.length=l0.length->(∀z,z∈l'↔z∈l0)->(wC l0 (l0.length -1)->nm l')->∀(i:Int)(b:Bool),Q .normal [(0,.ptr h 0),(4,.int .i64 i),(44,.bool b)] (cP M h a l' [] ver p++L)):
 dn au Q_ Q [(0,.ptr h 0),(4,.int .i64 ((l0.length -1:Nat):Int))] (cP M h a l0 [] ver p++L):=by
 have hlen:=fun(l j:List cj)(M:Mem)=>rD (M:=M) (h:=h) (a:=a) (l:=l) (j:=j) (ver:=ver) (p:=p);have aG8:∀(l':List cj)(i k:Nat)(x y:cj),l'[i]? =some x->l'[k]? =some y->b9 au xX [.ptr h 0,.int .i64 i,.int .i64 k] (cP M h a l' [] ver p++L) (fun v ah=>v=.bool (wd x y)/\ah=cP M h a l' [] ver p++L):=fun l' i k x y hi ao=>by
  rw[qj H];exact Lr (H.app cV) hi ao
 have MG:∀(l':List cj)(i k:Nat)(x y:cj),l'[i]? =some x->l'[k]? =some y->b9 au vS [.ptr h 0,.int .i64 i,.int .i64 k] (cP M h a l' [] ver p++L) (fun v ah=>v=.tuple []/\ah=cP M h a (sc l' i k x y) [] ver p++L):=fun l' i k x y hi ao=>by
  rw[qj H,qj H];exact O4 (H.app cV) hi ao
 simp-implicitDefEqProofs (disch:=omega) only[go_sem,↓bm 19,↓bm 20];refine lT (fun m vs N=>∃(i:Nat)(l':List cj),m=i/\vs=[.ptr h 0,.int .i64 i]/\N=cP M h a l' [] ver p++L/\i<l0.length/\l'.length=l0.length/\(∀z,z∈l'↔z∈l0)/\(wC l0 (l0.length -1)->wC l' i)) (l0.length -1)
  ⟨l0.length -1,l0,rfl,rfl,rfl,by omega,rfl,fun _=>Iff.rfl,id⟩ ?_;rintro i vs N ⟨_,l',rfl,rfl,rfl,hi,er,gI,gl⟩;simp-implicitDefEqProofs (disch:=omega) only[go_sem];refine a5 (fun aT=>?_) (fun aT=>?_);rotate_left
 . simp-implicitDefEqProofs (disch:=omega) only[go_sem]
   exact gw l' er gI (fun a8=>X5 (gl a8) fun x y TU=>by omega) _ _
 have a4:((i:Int) -1)=((i -1:Nat):Int):=by omega
 have bd:=aHF (i -1) (by omega);obtain⟨x,ad⟩:∃x,l'[i]? =some x:=⟨l'[i]'(by omega),by simp⟩;obtain⟨y,aE⟩:∃y,l'[(i -1)/2]? =some y:=⟨l'[(i -1)/2]'(by omega),by simp⟩;simp-implicitDefEqProofs (disch:=omega) only[go_sem,a4,bd];refine ew (aG8 l' _ _ x y ad aE) ?_;rintro v _ ⟨rfl,rfl⟩;simp-implicitDefEqProofs (disch:=omega) only[go_sem];refine ck (fun a2=>?_) (fun a2=>?_);rotate_left
 . simp-implicitDefEqProofs (disch:=omega) only[go_sem]
   refine gw l' er gI (fun a8=>X5 (gl a8) fun u v _ hu aq=>?_) _ _;rw[ad] at hu;cases hu;rw[aE] at aq;cases aq;exact ON a2
 simp-implicitDefEqProofs (disch:=omega) only[go_sem,a4,bd];refine ew (MG l' _ _ x y ad aE) ?_;rintro v _ ⟨rfl,rfl⟩;simp-implicitDefEqProofs (disch:=omega) only[go_sem,a4,bd];refine uB ((i -1)/2) (by omega) ⟨(i -1)/2,sc l' i ((i -1)/2) x y,rfl,rfl,rfl,by omega,by rw[O2];exact er,fun z=>(O3 ad aE z).trans (gI z),fun a8=>aPZ (gl a8) (by omega) ad aE ((Ks _ _).1 a2)⟩
theorem aJO{l:List cj}(e:cj)(h:nm l):wC (l++[e]) ((l++[e]).length -1):=by
 have ag:(l++[e]).length -1=l.length:=by simp
 rw[ag];refine⟨fun q x y aG cD ad aE=>?_,fun q x z _ aG vC ad a_=>?_⟩
 . have aa:=(bo.1 ad).1
   rw[dz] at aa;have aa:q<l.length:=by simp at aa;omega
   rw[gp aa] at ad;rw[gp (by omega)] at aE;exact h q x y aG ad aE
 . have aa:=(bo.1 ad).1
   rw[dz] at aa;simp at aa;omega
theorem aaY{M:Mem}{h a ver:Nat}{l j:List cj}{p:Int}(x:dp)(H:lv M h a)(aj:l.length<=100000000)(ay:0<=p/\p<=1000000000):
 b9 au xW [.ptr h 0,.agg x.cells] (cP M h a l j ver p) (fun v ah=>v=.tuple []/\∃l',ah=cP M h a l' [] (ver+1) (p+1)/\La l (x,p) l'):=by
 have hlen:=fun(l j:List cj)(ver:Nat)(p:Int)=>rD (M:=M) (h:=h) (a:=a) (l:=l) (j:=j) (ver:=ver) (p:=p);have cz:∀(l j:List cj)(ver:Nat)(p:Int)(L:Mem),(cP M h a l j ver p++L)[h]? =some (.box [.dF j1 [],.aZ a ver 0 l.length,.int .i64 p]):=fun l j ver p L=>bY (vl H) L;have c2:∀(l j:List cj)(ver:Nat)(p:Int)(L:Mem),(cP M h a l j ver p++L)[a]? =some (.arr 4 ((l++j).map h4) ver 0):=fun l j ver p L=>bY (tP H) L;have gj:=fun L=>i1 (cP M h a l j ver p) L;have kh:=fun L=>lj (cP M h a l j ver p) L;have eS:=fun L=>eT (cP M h a l j ver p) L;simp only[hlen] at gj kh eS;have dy:=fun(l:List cj) L=>jP (hlen l [] (ver+1) (p+1)) L;have own:=fun(l:List cj)=>tQ (l:=l) (j:=[]) (ver:=ver+1) (p:=p+1) H;have hle:∀L:Mem,decide (M.length<=M.length+L.length)=true:=fun L=>decide_eq_true (by omega);have i4:=fun L=>aIb (j:=j) (ver:=ver) (p:=p) H (x,p) L (show l.length<=1000000000 by omega);have pl:∀(L:Mem)(A:a1),((cP M h a l j ver p++L).set a A)[h]? =some (.box [.dF j1 [],.aZ a ver 0 l.length,.int .i64 p]):=fun L A=>by
  rw[dv H.ne.symm,cz]
 have cZ:(l++[(x,p)]).length=l.length+1:=by simp
 have bl:∀L:Mem,((cP M h a l j ver p++L).set a (.arr 4 ((l++[(x,p)]).map h4) (ver+1) 0)).set h (.box [.dF j1 [],.aZ a (ver+1) 0 (l.length+1),.int .i64 p])=cP M h a (l++[(x,p)]) [] (ver+1) p++L:=fun L=>by
  have e:=aIc M h a l j ver p (.arr 4 ((l++[(x,p)]).map h4) (ver+1) 0) (pg a (ver+1) (l.length+1) p) H.ne;rw[nV (by rw[hlen];exact H.Bc),nV (by rw[eR,hlen];exact H.aj)];have bd:cP M h a (l++[(x,p)]) [] (ver+1) p=(M.set a (.arr 4 ((l++[(x,p)]).map h4) (ver+1) 0)).set h (pg a (ver+1) (l.length+1) p):=by rw[cP,fA,cZ]
  rw[bd];exact congrArg (·++L) e
 have rM:∀L:Mem,(cP M h a (l++[(x,p)]) [] (ver+1) p++L).set h (.box [.dF j1 [],.aZ a (ver+1) 0 (l.length+1),.int .i64 (p+1)])=cP M h a (l++[(x,p)]) [] (ver+1) (p+1)++L:=fun L=>by
  have e:=Ul (M:=M) (h:=h) (a:=a) (ver:=ver+1) (l:=l++[(x,p)]) (j:=[]) (p:=p) (l':=l++[(x,p)]) (j':=[]) (p':=p+1) H.ne rfl;rw[pg,cZ] at e;rw[nV (by rw[hlen];exact H.aj),e]
 have a4:(((l.length+1:Nat):Int) -1)=(((l++[(x,p)]).length -1:Nat):Int):=by rw[cZ];omega
 refine bP S2 (by simp[zu]) ?_;simp-implicitDefEqProofs (disch:=omega) only[go_sem,zu,hlen,dp.cells,e1,w4,cz,c2,eS,i4,pl,bl,rM,a4];rw[show l.length+1 -1=(l++[(x,p)]).length -1 by rw[cZ]];refine WE (l0:=l++[(x,p)]) (L:=[.box x.cells]) H (by simp[dp.cells]<;>simp[cq,a1.under,cT,V.under]) (by rw[cZ];omega) (by rw[cZ];omega) _ fun l' bI ce dS i b=>?_;simp-implicitDefEqProofs (disch:=omega) only[go_sem,hlen,dy,own];exact⟨l',rfl,by rw[bI,cZ],fun z=>by rw[ce];simp,fun a8=>dS (aJO _ a8)⟩
theorem aaX{M:Mem}{h:Nat}(x:dp)(a7:M[h]? =some (.box [.dF j1 [],.slice [] .nil,.int .i64 0]))(dZ:cq M.length M=true):
 b9 au xW [.ptr h 0,.agg x.cells] M (fun v ah=>v=.tuple []/\ah=cP (M++[.box x.cells,.dead]) h (M.length+1) [(x,0)] [] 0 1):=by
 have cn:h<M.length:=(bo.1 a7).1;have H:lv (M++[.box x.cells,.dead]) h (M.length+1):=⟨by simp;omega,by simp,by omega,by
  rw[nN,dz,nO (Nat.le_add_right _ _) M dZ];simp[cq,a1.under,dp.cells,cT,V.under]⟩;have cz:=fun L=>bY a7 L;have eS:=fun L=>eT M L;have eC:dX false 4 32 (.slice [] .nil) (.slice [[.int .i64 x.node,.int .i64 x.len,.int .i64 x.ec,.int .i64 0]] .full) (M++[.box [.int .i64 x.node,.int .i64 x.len,.int .i64 x.ec]])=
  some (.aZ (M.length+1) 0 0 1,M++[.box [.int .i64 x.node,.int .i64 x.len,.int .i64 x.ec],.arr 4 [[.int .i64 x.node,.int .i64 x.len,.int .i64 x.ec,.int .i64 0]] 0 0]):=by
  simp[dX,eK,g0,fr]
 have e0:∀(L:Mem)(B:a1),(M++L).set h B=M.set h B++L:=fun L B=>nV cn L B;have gx:∀(L:Mem)(B:a1),(M.set h B++L)[h]? =some B:=fun L B=>bY (eB cn) L;have aJ8:∀(L:Mem)(A B:a1),(M.set h A++L).set h B=M.set h B++L:=fun L A B=>by rw[nV (by rw[eR];exact cn),List.set_set]
 have aIn:∀(B:a1)(L:Mem),(M.set h B++L)[M.length+1]? =L[1]? :=fun B L=>by
  have:=i1 (M.set h B) L 1;rwa [eR] at this
 have Dc:M.set h (.box [.dF j1 [],.aZ (M.length+1) 0 0 1,.int .i64 1])++[.box [.int .i64 x.node,.int .i64 x.len,.int .i64 x.ec],.arr 4 [[.int .i64 x.node,.int .i64 x.len,.int .i64 x.ec,.int .i64 0]] 0 0]=cP (M++[.box x.cells,.dead]) h (M.length+1) [(x,0)] [] 0 1:=by
  have e:=lj M [a1.box x.cells,.dead] 1 (.arr 4 (([(x,(0:Int))]++[]).map h4) 0 0);rw[cP,e,nV cn];rfl
 have h7:(((1:Nat):Int) -1)=(([(x,(0:Int))].length -1:Nat):Int):=rfl;have hj:((0:Int)+1)=1:=rfl;refine hl S2 (by simp[zu]) ?_;simp only[hg];simp-implicitDefEqProofs (disch:=omega) only[go_sem,zu,dp.cells,e1,w4,cz,eS,eC,e0,gx,aJ8,aIn,hj];have key:=fun Q gw=>WE (l0:=[(x,0)]) (L:=[]) (ver:=0) (p:=1) H rfl (by simp) (by simp) Q gw;simp only[fA] at key;rw[h7,Dc];refine key _ fun l' bI ce dS i b=>?_;have ag:l'=[(x,0)]:=by
  obtain⟨z,rfl⟩:=List.length_eq_one_iff.1 bI;have:=(ce z).1 (by simp);rw[gZ] at this;rw[this]
 subst ag;simp-implicitDefEqProofs (disch:=omega) only[go_sem,dp.cells]
theorem Zr{M:Mem}:b9 au IF [.dF j1 []] M (fun v ah=>v=.ptr M.length 0/\ah=M++[.box [.dF j1 [],.slice [] .nil,.int .i64 0]]):=by
 have a4:dN .eql .fn (.dF j1 []) .gz=some (.bool false):=rfl;refine hl aFL (by simp[Gw]) ?_;simp only[hg];simp-implicitDefEqProofs (disch:=omega) only[go_sem,Gw,a4]
end Go.aL.C
namespace Go.aL.C
open Go.aL
structure Edge where
 src:Int
 dst:Int
 w:Int
def Edge.row(e:Edge):List V:=[.int .i64 e.src,.int .i64 e.dst,.int .i64 e.w]
def Edge.j2(e:Edge)(N:Nat):Prop:=(0<=e.src/\e.src<N)/\(0<=e.dst/\e.dst<N)/\1<=e.w/\e.w<=14400
theorem V4{M:Mem}(N i:Int)(hi:0<=i/\i<N)(a7:M[0]? =some (.box [.int .i64 N]))(dZ:cq M.length M=true):
 b9 au Af [.int .i64 i,.ptr 0 0] M (fun v ah=>v=.bool false/\ah=M):=by
 have dy:=XF M;refine bP aF6 (by simp[GL]) ?_;simp-implicitDefEqProofs (disch:=omega) only[go_sem,GL];refine a5 (fun h=>?_) (fun _=>?_)
 . omega
 have aa:decide (N<=i)=false:=decide_eq_false (by omega);simp-implicitDefEqProofs (disch:=omega) only[go_sem,a7,aa,dy,dZ]
theorem aOZ(l:List Edge)(c:c4)(N:Nat)(dc:N<=64)(ag:∀e∈l,e.j2 N)(hlen:l.length<=4096):
 bT au Ji [.int .i64 N,.slice (l.map Edge.row) c,.slice [] .nil] (fun v=>v=.int .i64 0):=by
 refine bP aF7 (by simp[GK]) ?_;simp-implicitDefEqProofs (disch:=omega) only[go_sem,GK];refine a5 (fun h=>?_) (fun _=>?_)
 . omega
 simp-implicitDefEqProofs (disch:=omega) only[go_sem];refine a5 (fun h=>?_) (fun _=>?_)
 . omega
 simp-implicitDefEqProofs (disch:=omega) only[go_sem];refine a5 (fun h=>?_) (fun _=>?_)
 . omega
 simp-implicitDefEqProofs (disch:=omega) only[go_sem];refine ej l (fun i vs M=>vs=[.slice [] .nil,.fn Af [.ptr 0 0],.slice (l.map Edge.row) c,.int .i64 l.length,.int .i64 i]/\M=[.box [.int .i64 N]]) ⟨rfl,rfl⟩ ?_ ?_
 . rintro i e vs M he hi aw ⟨rfl,rfl⟩
   obtain⟨aa,af,az,bh⟩:=ag e (dQ he);simp-implicitDefEqProofs (disch:=omega) only[go_sem,aw,he,Edge.row];refine ew (V4 N e.src aa rfl (by simp[cq,a1.under,cT,V.under])) ?_;rintro v _ ⟨rfl,rfl⟩;simp-implicitDefEqProofs (disch:=omega) only[go_sem];refine ew (V4 N e.dst af rfl (by simp[cq,a1.under,cT,V.under])) ?_;rintro v _ ⟨rfl,rfl⟩;simp-implicitDefEqProofs (disch:=omega) only[go_sem];refine a5 (fun h=>?_) (fun _=>?_)
   . omega
   simp-implicitDefEqProofs (disch:=omega) only[go_sem];refine a5 (fun h=>?_) (fun _=>?_)
   . omega
   simp-implicitDefEqProofs (disch:=omega) only[go_sem];exact dJ hi rfl ⟨rfl,rfl⟩
 rintro vs M ⟨rfl,rfl⟩;simp-implicitDefEqProofs (disch:=omega) only[go_sem,db];refine ge 0 (fun i vs M=>vs=[.fn Af [.ptr 0 0],.slice [] .nil,.int .i64 0,.int .i64 i]/\M=[.box [.int .i64 N]]) ⟨rfl,rfl⟩ ?_ ?_
 . rintro i vs M hi
   omega
 rintro vs M ⟨rfl,rfl⟩;have a_:decide (((0:Nat):Int)<0)=false:=rfl;simp-implicitDefEqProofs (disch:=omega) only[go_sem,a_]
def jf(x:dp):List V:=[.int .i64 x.node,.int .i64 x.len,.int .i64 x.ec]
theorem N9{zero:List V}{sz bytes n:Nat}{M:Mem}(aK:n<=1000)(aj:bytes<=1000):m8 zero sz bytes (.int .i64 (n:Int)) (.int .i64 (n:Int)) M=some (.aZ M.length 0 0 n,M++[.arr sz (f_ n zero) 0 0]):=by
 have aa:(n:Int)*(bytes:Int)<=1000*1000:=Int.mul_le_mul (by omega) (by omega) (by omega) (by omega);have bW:decide (0<=(n:Int))=true:=decide_eq_true (by omega);have b8:decide ((n:Int)<=(n:Int))=true:=decide_eq_true (by omega);have cN:decide ((n:Int)*(bytes:Int)<=2^48)=true:=decide_eq_true (by omega);have dl:decide ((n:Int)<2^62)=true:=decide_eq_true (by omega);simp only[m8,bW,b8,cN,dl,kU,eQ,cond_true]
theorem Mf{α:Type}{l:List α}{f:α->List V}{z:List V}{i:Nat}{x:α}(h:l[i]? =some x):((l.take i).map f++f_ (l.length -i) z).set i (f x)=(l.take (i+1)).map f++f_ (l.length -(i+1)) z:=by
 have hi:=(bo.1 h).1;rw[List.set_append,if_neg (by simp;omega),show l.length -i=(l.length -(i+1))+1 by omega,List.replicate_succ,eu,iS,Nat.min_eq_left (by omega),mS,List.set_cons_zero,iu,h];simp
theorem Me{α:Type}(l:List α)(f:α->List V)(z:List V){i:Nat}(h:i<=l.length):((l.take i).map f++f_ (l.length -i) z).length=l.length:=by
 simp;omega
theorem Md{α:Type}{l:List α}{f:α->List V}{z:List V}{i:Nat}(h:i<l.length):((l.take i).map f++f_ (l.length -i) z)[i]? =some z:=by
 rw[j_ (by simp;omega),List.getElem?_replicate,if_pos (by simp;omega)]
theorem aLF(l:List dp)(c:c4)(ag:l.length<=64):bT au Jk [.slice (l.map jf) c] (fun v=>v=.slice (l.map fun x=>[.int .i64 x.len]) .cx):=by
 have pr:=fun M=>N9 (zero:=[.int .i64 0]) (sz:=1) (bytes:=8) (n:=l.length) (M:=M) (by omega) (by omega);refine bP aF9 (by simp[GN]) ?_;simp-implicitDefEqProofs (disch:=omega) only[go_sem,GN,pr];refine ej l (fun i vs M=>vs=[.aZ 0 0 0 l.length,.slice (l.map jf) c,.int .i64 l.length,.int .i64 i]/\M=[.arr 1 ((l.take i).map (fun x=>[.int .i64 x.len])++f_ (l.length -i) [.int .i64 0]) 0 0]) ⟨rfl,by simp⟩ ?_ ?_
 . rintro i x vs M ad hi aw ⟨rfl,rfl⟩
   have bW:=Me l (fun x:dp=>[V.int .i64 x.len]) [.int .i64 0] (i:=i) (by omega);have b8:=Md (l:=l) (f:=fun x:dp=>[V.int .i64 x.len]) (z:=[.int .i64 0]) hi;have cN:=Mf (f:=fun x:dp=>[V.int .i64 x.len]) (z:=[.int .i64 0]) ad;have dl:decide (i<l.length)=true:=decide_eq_true hi;simp-implicitDefEqProofs (disch:=omega) only[go_sem,aw,ad,jf,bW,b8,cN,dl];exact dJ hi rfl ⟨rfl,rfl⟩
 rintro vs M ⟨rfl,rfl⟩;simp-implicitDefEqProofs (disch:=omega) only[go_sem,db];rw[aDZ];have a_:(l.take l.length).map (fun x:dp=>[V.int .i64 x.len])++f_ (l.length -l.length) [V.int .i64 0]=l.map fun x=>[.int .i64 x.len]:=by simp
 rw[a_];have aD:eY [.arr 1 (l.map fun x=>[V.int .i64 x.len]) 0 0] 0 20 (.aZ 0 0 0 l.length)=some (.slice (l.map fun x=>[.int .i64 x.len]) .cx):=by
  have:=zx (M:=[.arr 1 (l.map fun x:dp=>[V.int .i64 x.len]) 0 0]) (base:=0) (n:=19) (id:=0) (ver:=0) (start:=0) (len:=l.length) rfl rfl (by simp);rw[lW,g_ (by simp)] at this;exact this
 show kZ (eY [.arr 1 (l.map fun x=>[V.int .i64 x.len]) 0 0] 0 20 (.aZ 0 0 0 l.length)) _;rw[aD];exact⟨by simp[V.under,cq],rfl,rfl,rfl⟩
end Go.aL.C
namespace Go.aL.C
open Go.aL
section
variable{α:Type}[DecidableEq α]{c:fv}{cL:α->V}
def h3(x:α)(v:V):List (α×V)->List (α×V)
 |[]=>[(x,v)]
 |e::l=>if x=e.1 then(x,v)::l else e::h3 x v l
theorem VR(h:kd c cL)(x:α)(v:V):∀l:List (α×V),oB c (cL x) v (cI cL l)=cI cL (h3 x v l)
 |[]=>rfl
 |e::l=>by
  show(bif (h1 c (cL x) (cL e.1)).getD false then(cL x,v)::cI cL l else(cL e.1,e.2)::oB c (cL x) v (cI cL l))=_;rw[VR h x v l,h.eq,h3];by_cases ad:x=e.1
  . rw[if_pos ad,decide_eq_true ad];rfl
  . rw[if_neg ad,decide_eq_false ad];rfl
theorem Pf(h:kd c cL)(x:α){v:V}(l:List (α×V))(aq:v.iK=true):nZ c (cL x) v (cI cL l)=some (cI cL (h3 x v l)):=by
 simp only[nZ,h.key,Ap h,aq,eQ,cond_true,VR h x v l]
theorem vc(x y:α)(v:V):∀l:List (α×V),fZ y (h3 x v l)=if y=x then some v else fZ y l
 |[]=>by
  by_cases h:y=x
  . subst h;simp[h3,fZ]
  . simp[h3,fZ,h]
 |e::l=>by
  have bu:=vc x y v l;unfold fZ at bu⊢;rw[h3];by_cases ad:x=e.1
  . rw[if_pos ad,List.find?_cons,List.find?_cons]
    by_cases h:y=x
    . subst h;rw[if_pos rfl];simp
    . have af:¬y=e.1:=fun q=>h (q.trans ad.symm)
      simp only[decide_eq_false h,decide_eq_false af,if_neg h]
  . rw[if_neg ad,List.find?_cons,List.find?_cons]
    by_cases h:y=e.1
    . have af:¬y=x:=fun q=>ad (q.symm.trans h)
      simp only[decide_eq_true h,if_neg af]
    . simp only[decide_eq_false h]
      exact bu
theorem KL{n:Nat}(x:α){v:V}(aq:v.under n=true):∀l:List (α×V),(∀e∈l,e.2.under n=true)->∀e∈h3 x v l,e.2.under n=true
 |[],_,e,he=>by simp[h3] at he;subst he;exact aq
 |q::l,h,e,he=>by
  rw[h3] at he;split at he
  . rcases jt.1 he with rfl|he
    . exact aq
    . exact h e (by simp[he])
  . rcases jt.1 he with rfl|he
    . exact h _ (by simp)
    . exact KL x aq l (fun e he=>h e (by simp[he])) e he
end
def gv(k:Int)(l:List Edge):List Edge:=l.filter fun e=>decide (e.src=k)
theorem sC(k:Int)(l:List Edge)(e:Edge):gv k (l++[e])=if e.src=k then gv k l++[e] else gv k l:=by
 rw[gv,List.filter_append];by_cases h:e.src=k<;>simp[gv,h]
structure p1(M:Mem)(mp:List (Int×V))(l:List Edge):Prop where
 mapA:M[0]? =some (.map (cI i_ mp))
 ym:∀k,fZ k mp=none->gv k l=[]
 wj:∀k v,fZ k mp=some v->∃a ver,v=.aZ a ver 0 (gv k l).length/\M[a]? =some (.arr 3 ((gv k l).map Edge.row) ver 0)
 inj:∀k dk a ver n lk yj,fZ k mp=some (.aZ a ver 0 n)->fZ dk mp=some (.aZ a lk 0 yj)->k=dk
 wo:∀e∈mp,e.2.under M.length=true
 own:cq M.length M=true
theorem aMM{M:Mem}{mp:List (Int×V)}{l:List Edge}(h:p1 M mp l)(cells:List V)(ar:cT 0 cells=true):p1 (M++[a1.box cells]) mp l:=
 ⟨bY h.mapA _,h.ym,fun k v ao=>by
   obtain⟨a,ver,aa,af⟩:=h.wj k v ao;exact⟨a,ver,aa,bY af _⟩,h.inj,fun e he=>wt (by simp) _ (h.wo e he),by
   rw[nN,dz,nO (Nat.le_add_right _ _) M h.own];simp[cq,a1.under,ws (fR _) cells ar]⟩
theorem aMO{M:Mem}{mp:List (Int×V)}{l:List Edge}(h:p1 M mp l)(e:Edge)(aK:fZ e.src mp=none):
 p1 ((M++[a1.arr 3 [e.row] 0 0]).set 0 (.map (cI i_ (h3 e.src (.aZ M.length 0 0 1) mp)))) (h3 e.src (.aZ M.length 0 0 1) mp) (l++[e]):=by
 have a8:0<M.length:=(bo.1 h.mapA).1;have a9:∀{a:Nat}{B:a1},a≠0->M[a]? =some B->((M++[a1.arr 3 [e.row] 0 0]).set 0 (.map (cI i_ (h3 e.src (.aZ M.length 0 0 1) mp))))[a]? =some B:=fun a9 bU=>by
  rw[dv a9.symm];exact bY bU _
 have cD:∀k a ver n,fZ k mp=some (.aZ a ver 0 n)->a≠0/\a<M.length:=fun k a ver n ao=>by
  obtain⟨dt,lk,aa,af⟩:=h.wj k _ ao;cases aa;refine⟨fun e=>?_,(bo.1 af).1⟩;rw[e,h.mapA] at af;cases af
 have qs:∀q∈h3 e.src (.aZ M.length 0 0 1) mp,q.2.under (M.length+1)=true:=KL _ (by simp[V.under]) _ fun q aG=>wt (by omega) _ (h.wo q aG);refine⟨?_,fun k ao=>?_,fun k v ao=>?_,fun k dk a ver n lk yj ao i7=>?_,fun q aG=>?_,?_⟩
 . rw[eB (by simp)]
 . rw[vc] at ao
   split at ao
   . cases ao
   . rename_i sO
     rw[sC,if_neg (fun q=>sO q.symm)];exact h.ym k ao
 . rw[vc] at ao
   split at ao
   . rename_i he
     cases ao;subst he;refine⟨M.length,0,?_,?_⟩
     . rw[sC,if_pos rfl,h.ym _ aK];rfl
     . rw[dv (by omega),j_ (by omega),mS,sC,if_pos rfl,h.ym _ aK];rfl
   . rename_i sO
     obtain⟨a,ver,aa,af⟩:=h.wj k v ao;subst aa;refine⟨a,ver,?_,?_⟩
     . rw[sC,if_neg (fun q=>sO q.symm)]
     . rw[sC,if_neg (fun q=>sO q.symm)]
       exact a9 (cD _ _ _ _ ao).1 af
 . rw[vc] at ao i7
   split at ao<;>split at i7
   . rename_i a4 bd;exact a4.trans bd.symm
   . cases ao;have:=(cD _ _ _ _ i7).2;omega
   . cases i7;have:=(cD _ _ _ _ ao).2;omega
   . exact h.inj _ _ _ _ _ _ _ ao i7
 . rw[eR,dz];exact qs q aG
 . rw[eR,dz]
   refine Ax ?_ (by simp only[a1.under];exact wq _ _ qs) 0;rw[nN,nO (Nat.le_add_right _ _) M h.own];rfl
theorem aMP{M:Mem}{mp:List (Int×V)}{l:List Edge}(h:p1 M mp l)(e:Edge){a ver:Nat}(aK:fZ e.src mp=some (.aZ a ver 0 (gv e.src l).length)):
 p1 ((M.set a (.arr 3 ((gv e.src l++[e]).map Edge.row) (ver+1) 0)).set 0 (.map (cI i_ (h3 e.src (.aZ a (ver+1) 0 ((gv e.src l).length+1)) mp)))) (h3 e.src (.aZ a (ver+1) 0 ((gv e.src l).length+1)) mp) (l++[e]):=by
 have a8:0<M.length:=(bo.1 h.mapA).1;have cD:∀k a ver n,fZ k mp=some (.aZ a ver 0 n)->a≠0/\a<M.length:=fun k a ver n ao=>by
  obtain⟨dt,lk,aa,af⟩:=h.wj k _ ao;cases aa;refine⟨fun e=>?_,(bo.1 af).1⟩;rw[e,h.mapA] at af;cases af
 obtain⟨MI,jn⟩:=cD _ _ _ _ aK;have qs:∀q∈h3 e.src (.aZ a (ver+1) 0 ((gv e.src l).length+1)) mp,q.2.under M.length=true:=KL _ (by simp[V.under];exact jn) _ h.wo;refine⟨?_,fun k ao=>?_,fun k v ao=>?_,fun k dk b yN n lk yj ao i7=>?_,fun q aG=>?_,?_⟩
 . rw[eB (by rw[eR];exact a8)]
 . rw[vc] at ao
   split at ao
   . cases ao
   . rename_i sO
     rw[sC,if_neg (fun q=>sO q.symm)];exact h.ym k ao
 . rw[vc] at ao
   split at ao
   . rename_i he
     cases ao;subst he;refine⟨a,ver+1,?_,?_⟩
     . rw[sC,if_pos rfl,dz];rfl
     . rw[dv MI.symm,eB jn,sC,if_pos rfl]
   . rename_i sO
     obtain⟨b,yN,aa,af⟩:=h.wj k v ao;subst aa;refine⟨b,yN,?_,?_⟩
     . rw[sC,if_neg (fun q=>sO q.symm)]
     . have qe:=(cD _ _ _ _ ao).1
       have hp:b≠a:=fun q=>by subst q;exact sO (h.inj _ _ _ _ _ _ _ ao aK)
       rw[sC,if_neg (fun q=>sO q.symm),dv qe.symm,dv hp.symm];exact af
 . rw[vc] at ao i7
   split at ao<;>split at i7
   . rename_i a4 bd;exact a4.trans bd.symm
   . rename_i a4 bd;cases ao;exact absurd (h.inj _ _ _ _ _ _ _ i7 aK) bd
   . rename_i a4 bd;cases i7;exact absurd (h.inj _ _ _ _ _ _ _ ao aK) a4
   . exact h.inj _ _ _ _ _ _ _ ao i7
 . rw[eR,eR];exact qs q aG
 . rw[eR,eR]
   exact Ax (Ax h.own rfl a) (by simp only[a1.under];exact wq _ _ qs) 0
theorem aMQ(l:List Edge)(c:c4)(hlen:l.length<=4096):
 b9 au Jl [.slice (l.map Edge.row) c,.bool false] [] (fun v ah=>v=.map 0/\∃mp,p1 ah mp l):=by
 refine hl aGa (by simp[GP]) ?_;simp only[hg];simp-implicitDefEqProofs (disch:=omega) only[go_sem,GP];refine ej l (fun i vs M=>∃mp,p1 M mp (l.take i)/\vs=[.bool false,.map 0,.slice (l.map Edge.row) c,.int .i64 l.length,.int .i64 i]) ⟨[],⟨rfl,(fun _ _=>rfl),(fun k v h=>by cases h),(fun _ _ _ _ _ _ _ h=>by cases h),(fun e he=>by cases he),rfl⟩,rfl⟩ ?_ ?_;rotate_left
 . rintro vs M ⟨mp,dc,rfl⟩
   rw[gB] at dc;simp-implicitDefEqProofs (disch:=omega) only[go_sem,db];exact⟨mp,dc⟩
 rintro i e vs M he hi aw ⟨mp,dc,rfl⟩;have aV:l.take (i+1)=l.take i++[e]:=by rw[iu,he];rfl
 have aB:=aMM dc e.row rfl;have eS:=fun L=>eT M L;have kz:=fun L=>jM M L;have g3:(gv e.src (l.take i)).length<=4096:=kb (List.length_filter_le _ _) (by rw[iS];omega);have kG:nK .int (.slice [] .nil) false (.int .i64 e.src) (cI i_ mp)=some (match fZ e.src mp with|some v=>v|none=>.slice [] .nil):=At vV _ _ _ _;have Dl:=aB.mapA;simp only[Edge.row] at Dl;cases ao:fZ e.src mp with
 |none=>
  have aK:=aMO aB e ao;have eC:dX false 3 24 (.slice [] .nil) (.slice [[.int .i64 e.src,.int .i64 e.dst,.int .i64 e.w]] .full) (M++[a1.box [.int .i64 e.src,.int .i64 e.dst,.int .i64 e.w]])=
   some (.aZ (M.length+1) 0 0 1,M++[a1.box [.int .i64 e.src,.int .i64 e.dst,.int .i64 e.w]]++[a1.arr 3 [[.int .i64 e.src,.int .i64 e.dst,.int .i64 e.w]] 0 0]):=by
   simp[dX,eK,g0,fr]
  have NI:nZ .int (.int .i64 e.src) (.aZ (M.length+1) 0 0 1) (cI i_ mp)=some (cI i_ (h3 e.src (.aZ (M.length+1) 0 0 1) mp)):=Pf vV e.src mp rfl;have qm:=bY Dl [.arr 3 [[.int .i64 e.src,.int .i64 e.dst,.int .i64 e.w]] 0 0];have Lo:(M++[a1.box [.int .i64 e.src,.int .i64 e.dst,.int .i64 e.w]]++[a1.arr 3 [[.int .i64 e.src,.int .i64 e.dst,.int .i64 e.w]] 0 0])[M.length]? =some (.box [.int .i64 e.src,.int .i64 e.dst,.int .i64 e.w]):=by
   rw[en,eT];rfl
  rw[ao] at kG;simp only at kG;simp-implicitDefEqProofs (disch:=omega) only[go_sem,aw,he,Edge.row,eS,kz,Dl,kG,eC,qm,Lo,NI];refine cS hi ⟨h3 e.src (.aZ (M.length+1) 0 0 1) mp,?_,rfl⟩;rw[aV];have:=aK;simp only[dz,dC,gY,Edge.row] at this;exact this
 |some v=>
  obtain⟨a,ver,rfl,el⟩:=aB.wj _ _ ao;have aK:=aMP aB e ao;have jn:a<(M++[a1.box e.row]).length:=(bo.1 el).1;have MI:a≠0:=fun q=>by rw[q,aB.mapA] at el;cases el
  have k_:decide (((gv e.src (l.take i)).length+1)*48<=2^48)=true:=decide_eq_true (by omega);have eC:dX false 3 24 (.aZ a ver 0 (gv e.src (l.take i)).length) (.slice [[.int .i64 e.src,.int .i64 e.dst,.int .i64 e.w]] .full) (M++[a1.box [.int .i64 e.src,.int .i64 e.dst,.int .i64 e.w]])=
   some (.aZ a (ver+1) 0 ((gv e.src (l.take i)).length+1),(M++[a1.box [.int .i64 e.src,.int .i64 e.dst,.int .i64 e.w]]).set a (.arr 3 ((gv e.src (l.take i)++[e]).map Edge.row) (ver+1) 0)):=by
   simp only[Edge.row] at el;simp only[dX,eK,fr,dC,gY,ee,beq_self_eq_true,cond_true,g0,el,eu,eQ,Nat.reduceMul,k_];simp[Edge.row]
  have NI:nZ .int (.int .i64 e.src) (.aZ a (ver+1) 0 ((gv e.src (l.take i)).length+1)) (cI i_ mp)=some (cI i_ (h3 e.src (.aZ a (ver+1) 0 ((gv e.src (l.take i)).length+1)) mp)):=Pf vV e.src mp rfl;have qm:∀B:a1,((M++[a1.box [.int .i64 e.src,.int .i64 e.dst,.int .i64 e.w]]).set a B)[0]? =some (.map (cI i_ mp)):=fun B=>by
   rw[dv MI];exact Dl
  have aHD:a≠M.length:=fun q=>by rw[q,eT] at el;cases el
  have Lo:∀B:a1,((M++[a1.box [.int .i64 e.src,.int .i64 e.dst,.int .i64 e.w]]).set a B)[M.length]? =some (.box [.int .i64 e.src,.int .i64 e.dst,.int .i64 e.w]):=fun B=>by
   rw[dv aHD,eT];rfl
  rw[ao] at kG;simp only at kG;simp-implicitDefEqProofs (disch:=omega) only[go_sem,aw,he,Edge.row,eS,kz,Dl,kG,eC,qm,Lo,NI];refine cS hi ⟨h3 e.src (.aZ a (ver+1) 0 ((gv e.src (l.take i)).length+1)) mp,?_,rfl⟩;rw[aV];exact aK
end Go.aL.C
namespace Go.aL.C
open Go.aL
def PQ(l:List Edge)(N:Nat)(W:Nat->Nat->Int):Prop:=(∀e∈l,W e.src.toNat e.dst.toNat<=e.w)/\∀i j m,i<N->j<N->m<N->W i j<=W i m+W m j
structure n7(l:List Edge)(N s c:Nat)(D:List dp)(q:List cj)(Kd:Edge->Prop):Prop where
 len:D.length=N
 l2:c=D.countP fun x=>decide (0<=x.ec)
 fin:∀(i:Nat)(x:dp),D[i]? =some x->(x.ec=-1/\x.len=-1)∨(0<=x.ec/\x.ec<=c/\0<=x.len/\x.len<=14400*x.ec)
 qN:∀z∈q,(0<=z.1.node/\z.1.node<N)/\0<=z.1.ec/\z.1.ec<=c/\0<=z.1.len/\z.1.len<=14400*z.1.ec
 rel:∀e∈l,¬Kd e->∀x,D[e.src.toNat]? =some x->0<=x.ec->∃y,D[e.dst.toNat]? =some y/\((0<=y.ec/\y.len<=x.len+e.w)∨(y.ec<0/\∃z∈q,z.1.node=e.dst/\z.1.len<=x.len+e.w))
 mono:∀(i:Nat)(x:dp),D[i]? =some x->0<=x.ec->∀z∈q,x.len<=z.1.len
 low:∀W,PQ l N W->(∀(i:Nat)(x:dp),D[i]? =some x->0<=x.ec->i≠s->W s i<=x.len)/\∀z∈q,z.1.node.toNat≠s->W s z.1.node.toNat<=z.1.len
 src:(∃x,D[s]? =some x/\0<=x.ec/\x.len=0)∨((∀(i:Nat)(x:dp),D[i]? =some x->x.ec=-1)/\∃p,q=[(⟨s,0,0⟩,p)])
theorem PN{x y:cj}(h:jw x y):x.1.len<=y.1.len:=by
 unfold jw sl at h;omega
theorem RB{α:Type}{p:α->Bool}{a b:α}:∀(l:List α)(i:Nat),l[i]? =some a->p a=false->p b=true->(l.set i b).countP p=l.countP p+1
 |[],i,h,_,_=>by simp at h
 |x::l,0,h,a9,aj=>by
  simp at h;subst h;rw[List.set_cons_zero,List.countP_cons,List.countP_cons,a9,aj];simp
 |x::l,i+1,h,a9,aj=>by
  rw[List.set_cons_succ,List.countP_cons,List.countP_cons,RB l i (by simpa using h) a9 aj];omega
theorem aDF{l:List Edge}{N s c:Nat}{D:List dp}{q j6:List cj}{z:cj}{Kd:Edge->Prop}(h:n7 l N s c D q Kd)(ay:Fb q z j6){x:dp}(ad:D[z.1.node.toNat]? =some x)(aD:0<=x.ec)(eN:∀e∈l,e.j2 N)(a_:z∈q):n7 l N s c D j6 Kd:=by
 refine⟨h.len,h.l2,h.fin,fun w hw=>h.qN w (ay.sub w hw),fun e he qq u hu mD=>?_,fun i u hu mD w hw=>h.mono i u hu mD w (ay.sub w hw),fun W ez=>⟨(h.low W ez).1,fun w hw=>(h.low W ez).2 w (ay.sub w hw)⟩,?_⟩
 . obtain⟨y,aE,ow⟩:=h.rel e he qq u hu mD
   refine⟨y,aE,?_⟩;rcases ow with ow|⟨aa,w,hw,af,az⟩
   . exact .inl ow
   . rcases ay.mem w hw with rfl|gR
     . rw[af,aE] at ad;cases ad;omega
     . exact .inr ⟨aa,w,gR,af,az⟩
 . rcases h.src with aa|⟨aa,_⟩
   . exact .inl aa
   . have:=aa _ _ ad;omega
theorem aDH{l:List Edge}{N s c:Nat}{D:List dp}{q j6:List cj}{z:cj}(h:n7 l N s c D q (fun _=>False))(ay:Fb q z j6){x:dp}(ad:D[z.1.node.toNat]? =some x)(aD:x.ec<0)(eN:∀e∈l,e.j2 N)(a_:z∈q):
 n7 l N s (c+1) (D.set z.1.node.toNat z.1) j6 (fun e=>e.src=z.1.node)/\∀(i:Nat)(y:dp),(D.set z.1.node.toNat z.1)[i]? =some y->0<=y.ec->y.len<=z.1.len:=by
 obtain⟨⟨v2,v4⟩,a4,bd,cZ,e4⟩:=h.qN z a_;have bx:z.1.node.toNat<D.length:=(bo.1 ad).1;have get:∀i,(D.set z.1.node.toNat z.1)[i]? =if i=z.1.node.toNat then some z.1 else D[i]? :=fun i=>by
  rw[List.getElem?_set];by_cases hi:i=z.1.node.toNat
  . subst hi;rw[if_pos rfl,if_pos bx,if_pos rfl]
  . rw[if_neg (gq hi),if_neg hi]
 refine⟨⟨by rw[eR];exact h.len,?_,fun i u hu=>?_,fun w hw=>?_,fun e he qq u hu mD=>?_,fun i u hu mD w hw=>?_,fun W ez=>⟨fun i u hu mD hi=>?_,fun w hw=>(h.low W ez).2 w (ay.sub w hw)⟩,?_⟩,fun i y aE zN=>?_⟩
 . rw[RB D _ ad (decide_eq_false (by omega)) (decide_eq_true a4),<-h.l2]
 . rw[get] at hu
   split at hu
   . cases hu;exact .inr ⟨a4,by omega,cZ,e4⟩
   . rcases h.fin i u hu with aa|aa
     . exact .inl aa
     . exact .inr ⟨aa.1,by omega,aa.2.2⟩
 . obtain⟨bW,b8,cN,dl,e2⟩:=h.qN w (ay.sub w hw)
   exact⟨bW,b8,by omega,dl,e2⟩
 . obtain⟨⟨s1,dq⟩,⟨d1,d2⟩,_⟩:=eN e he
   rw[get,if_neg (by omega)] at hu;obtain⟨y,aE,ow⟩:=h.rel e he (fun q=>q) u hu mD;by_cases aw:e.dst.toNat=z.1.node.toNat
   . refine⟨z.1,by rw[get,if_pos aw],.inl ⟨a4,?_⟩⟩
     rw[aw,ad] at aE;cases aE;rcases ow with⟨aa,_⟩|⟨_,w,hw,_,az⟩
     . omega
     . have:=PN (ay.min w hw);omega
   . refine⟨y,by rw[get,if_neg aw];exact aE,?_⟩
     rcases ow with ow|⟨aa,w,hw,af,az⟩
     . exact .inl ow
     . rcases ay.mem w hw with rfl|gR
       . exact absurd (by rw[af]) aw
       . exact .inr ⟨aa,w,gR,af,az⟩
 . rw[get] at hu
   split at hu
   . cases hu;exact PN (ay.min w (ay.sub w hw))
   . exact h.mono i u hu mD w (ay.sub w hw)
 . rw[get] at hu
   split at hu
   . rename_i mE
     cases hu;have:=(h.low W ez).2 z a_ (by omega);rw[<-mE] at this;exact this
   . exact(h.low W ez).1 i u hu mD hi
 . rcases h.src with⟨u,hu,mD,aJp⟩|⟨aa,p,aG⟩
   . refine .inl ⟨u,?_,mD,aJp⟩
     rw[get,if_neg (fun q=>by rw[q,ad] at hu;cases hu;omega)];exact hu
   . rw[aG] at a_
     have:=gZ.1 a_;subst this;exact .inl ⟨⟨s,0,0⟩,by rw[get,if_pos (by simp)],by simp,rfl⟩
 . rw[get] at aE
   split at aE
   . cases aE;exact Int.le_refl _
   . exact h.mono i y aE zN z a_
def dB(l:List Edge)(t:Nat)(e:Edge):Prop:=∃hy,t<=hy/\l[hy]? =some e
theorem aOg{l:List Edge}{k:Int}{e:Edge}(he:e∈l)(ao:e.src=k):dB (gv k l) 0 e:=by
 obtain⟨t,aV⟩:=ir (oU.2 ⟨he,decide_eq_true ao⟩:e∈gv k l);exact⟨t,fR _,aV⟩
theorem WR{l:List Edge}{t:Nat}{e f:Edge}(aD:l[t]? =some f)(h:¬dB l (t+1) e):¬dB l t e∨e=f:=by
 by_cases aa:dB l t e
 . obtain⟨hy,aV,he⟩:=aa
   rcases Nat.eq_or_lt_of_le aV with rfl|aV
   . rw[aD] at he;cases he;exact .inr rfl
   . exact absurd ⟨hy,aV,he⟩ h
 . exact .inl aa
theorem RM{l:List Edge}{N s c:Nat}{D:List dp}{q:List cj}{iN f8:Edge->Prop}(h:n7 l N s c D q iN)(ay:∀e∈l,¬f8 e->¬iN e):n7 l N s c D q f8:=
 ⟨h.len,h.l2,h.fin,h.qN,fun e he qq=>h.rel e he (ay e he qq),h.mono,h.low,h.src⟩
theorem aDJ{l:List Edge}{N s c t:Nat}{u p:Int}{D:List dp}{q j6:List cj}{x y:dp}{e:Edge}(h:n7 l N s c D q (dB (gv u l) t))(he:(gv u l)[t]? =some e)(eN:∀e∈l,e.j2 N)(ad:D[u.toNat]? =some x)(hr:0<=x.ec)(Vg:x.ec+1<=c)
 (xD:∀(i:Nat)(y:dp),D[i]? =some y->0<=y.ec->y.len<=x.len)(aE:D[e.dst.toNat]? =some y)(zN:y.ec<0)(ay:La q (⟨e.dst,x.len+e.w,x.ec+1⟩,p) j6):
 n7 l N s c D j6 (dB (gv u l) (t+1)):=by
 have zJ:=oU.1 (dQ he);have sK:e.src=u:=by simpa using zJ.2
 obtain⟨⟨s1,dq⟩,⟨d1,d2⟩,gL,kS⟩:=eN e zJ.1;have aRR:0<=x.len/\x.len<=14400*x.ec:=by
  rcases h.fin _ _ ad with aa|aa
  . omega
  . exact⟨aa.2.2.1,aa.2.2.2⟩
 refine⟨h.len,h.l2,h.fin,fun z a_=>?_,fun f aD nD a a9 zL=>?_,fun i a a9 zL z a_=>?_,fun W ez=>⟨(h.low W ez).1,fun z a_ cD=>?_⟩,?_⟩
 . rcases(ay.mem z).1 a_ with a_|rfl
   . exact h.qN z a_
   . exact⟨⟨d1,d2⟩,by simp;omega,by simp;omega,by simp;omega,by simp;omega⟩
 . rcases WR he nD with nD|rfl
   . obtain⟨b,aj,MK⟩:=h.rel f aD nD a a9 zL
     refine⟨b,aj,?_⟩;rcases MK with MK|⟨aa,z,a_,af⟩
     . exact .inl MK
     . exact .inr ⟨aa,z,(ay.mem z).2 (.inl a_),af⟩
   . rw[sK,ad] at a9;cases a9
     exact⟨y,aE,.inr ⟨zN,_,(ay.mem _).2 (.inr rfl),rfl,Int.le_refl _⟩⟩
 . rcases(ay.mem z).1 a_ with a_|rfl
   . exact h.mono i a a9 zL z a_
   . have:=xD i a a9 zL;simp only;omega
 . rcases(ay.mem z).1 a_ with a_|rfl
   . exact(h.low W ez).2 z a_ cD
   . simp only at cD⊢
     have aa:=ez.1 e zJ.1;rw[sK] at aa;by_cases U7:u.toNat=s
     . rw[U7] at aa;omega
     . have af:=(h.low W ez).1 _ _ ad hr U7
       have ak:s<N:=by
        rcases h.src with⟨a,a9,_⟩|⟨az,_⟩
        . have:=(bo.1 a9).1;rw[h.len] at this;exact this
        . have:=az _ _ ad;omega
       have az:=ez.2 s e.dst.toNat u.toNat ak (by omega) (by omega);omega
 . rcases h.src with aa|⟨aa,_⟩
   . exact .inl aa
   . have:=aa _ _ ad;omega
theorem aDK{l:List Edge}{N s c t:Nat}{u:Int}{D:List dp}{q:List cj}{x y:dp}{e:Edge}(h:n7 l N s c D q (dB (gv u l) t))(he:(gv u l)[t]? =some e)(eN:∀e∈l,e.j2 N)(ad:D[u.toNat]? =some x)
 (xD:∀(i:Nat)(y:dp),D[i]? =some y->0<=y.ec->y.len<=x.len)(aE:D[e.dst.toNat]? =some y)(zN:0<=y.ec):n7 l N s c D q (dB (gv u l) (t+1)):=by
 have zJ:=oU.1 (dQ he);have sK:e.src=u:=by simpa using zJ.2
 obtain⟨_,_,gL,kS⟩:=eN e zJ.1;refine⟨h.len,h.l2,h.fin,h.qN,fun f aD nD a a9 zL=>?_,h.mono,h.low,h.src⟩;rcases WR he nD with nD|rfl
 . exact h.rel f aD nD a a9 zL
 . rw[sK,ad] at a9;cases a9
   have:=xD _ y aE zN;exact⟨y,aE,.inl ⟨zN,by omega⟩⟩
structure yY(l:List Edge)(N s:Nat)(D:List dp):Prop where
 len:D.length=N
 fin:∀(i:Nat)(x:dp),D[i]? =some x->(x.ec<0/\x.len=-1)∨(0<=x.ec/\0<=x.len/\x.len<=1000000)
 rel:∀e∈l,∀x,D[e.src.toNat]? =some x->0<=x.ec->∃y,D[e.dst.toNat]? =some y/\0<=y.ec/\y.len<=x.len+e.w
 low:∀W,PQ l N W->∀(i:Nat)(x:dp),D[i]? =some x->0<=x.ec->i≠s->W s i<=x.len
 src:∃x,D[s]? =some x/\0<=x.ec/\x.len=0
theorem aDG{l:List Edge}{N s c:Nat}{D:List dp}(dc:N<=64)(h:n7 l N s c D [] (fun _=>False)):yY l N s D:=by
 have ar:c<=64:=by
  have:=List.countP_le_length (p:=fun x:dp=>decide (0<=x.ec)) (l:=D);rw[<-h.l2,h.len] at this;omega
 refine⟨h.len,fun i x ad=>?_,fun e he x ad aD=>?_,fun W ez=>(h.low W ez).1,?_⟩
 . rcases h.fin i x ad with aa|aa
   . exact .inl ⟨by omega,aa.2⟩
   . exact .inr ⟨aa.1,aa.2.2.1,by omega⟩
 . obtain⟨y,aE,ow⟩:=h.rel e he (fun q=>q) x ad aD
   rcases ow with ow|⟨_,z,a_,_⟩
   . exact⟨y,aE,ow⟩
   . cases a_
 . rcases h.src with aa|⟨_,p,aG⟩
   . exact aa
   . cases aG
def qx(N:Nat):List dp:=(c5 N).map fun i:Nat=>⟨(i:Int),-1,-1⟩
theorem aDI(l:List Edge)(N s:Nat)(ak:s<N)(p:Int):n7 l N s 0 (qx N) [(⟨(s:Int),0,0⟩,p)] (fun _=>False):=by
 have get:∀(i:Nat)(x:dp),(qx N)[i]? =some x->x.ec=-1/\x.len=-1:=fun i x ad=>by
  obtain⟨j,_,rfl⟩:=lr.1 (dQ ad);exact⟨rfl,rfl⟩
 refine⟨by simp[qx],?_,fun i x ad=>.inl (get i x ad),fun z a_=>?_,fun e _ _ x ad aD=>?_,fun i x ad aD=>?_,fun W _=>⟨fun i x ad aD=>?_,fun z a_ cD=>?_⟩,.inr ⟨fun i x ad=>(get i x ad).1,p,rfl⟩⟩
 . symm
   rw[List.countP_eq_zero];intro x ad;obtain⟨j,_,rfl⟩:=lr.1 ad;simp
 . have:=gZ.1 a_;subst this
   simp only;exact⟨⟨by omega,by omega⟩,by omega,by omega,by omega,by omega⟩
 . have:=(get _ x ad).1;omega
 . have:=(get _ x ad).1;omega
 . have:=(get _ x ad).1;omega
 . have:=gZ.1 a_;subst this
   simp at cD
end Go.aL.C
namespace Go.aL.C
open Go.aL
def l3(M:Mem)(s:Nat)(D:List dp):Mem:=M++[.arr 3 (D.map jf) 0 0,.box [.dF j1 [],.slice [] .nil,.int .i64 0],.box (dp.cells ⟨(s:Int),0,0⟩),.dead]
def ak(M:Mem)(s:Nat)(D:List dp)(q j:List cj)(ver:Nat)(p:Int):Mem:=cP (l3 M s D) (M.length+1) (M.length+3) q j ver p
section
variable{M:Mem}{s:Nat}{D:List dp}{q j:List cj}{ver:Nat}{p:Int}
theorem zj(dZ:cq M.length M=true):lv (l3 M s D) (M.length+1) (M.length+3):=⟨by simp[l3],by simp[l3],by omega,by
 rw[l3,nN,dz,nO (Nat.le_add_right _ _) M dZ];simp[cq,a1.under,dp.cells,cT,V.under]⟩
theorem lL:(ak M s D q j ver p).length=M.length+4:=by rw[ak,rD,l3];simp
theorem NC{i:Nat}{B:a1}(h:M[i]? =some B):(ak M s D q j ver p)[i]? =some B:=by
 have:=(bo.1 h).1;rw[ak,Uj (by omega) (by omega),l3];exact bY h _
theorem aJ5:(ak M s D q j ver p)[M.length]? =some (.arr 3 (D.map jf) 0 0):=by
 rw[ak,Uj (by omega) (by omega),l3,eT];rfl
theorem aJ6(uP:List dp):(ak M s D q j ver p).set M.length (.arr 3 (uP.map jf) 0 0)=ak M s uP q j ver p:=by
 have e:(l3 M s D).set M.length (.arr 3 (uP.map jf) 0 0)=l3 M s uP:=by rw[l3,jM];rfl
 rw[ak,ak,<-e,cP,cP];refine oT fun i=>?_;simp only[List.getElem?_set,eR];by_cases aa:M.length=i
 . subst aa
   have bx:M.length<(l3 M s D).length:=by simp[l3]
   simp[bx]
 . rw[if_neg aa,if_neg aa]
theorem U1(L:Mem):(ak M s D q j ver p++L).take M.length=M:=by
 refine oT fun i=>?_;rw[List.getElem?_take];by_cases hi:i<M.length
 . rw[if_pos hi,bY (NC (gg hi)) L];simp[hi]
 . rw[if_neg hi,lX (by omega)]
theorem UZ(dZ:cq M.length M=true):cq (M.length+4) (ak M s D q j ver p)=true:=by
 have:=tQ (l:=q) (j:=j) (ver:=ver) (p:=p) (zj (s:=s) (D:=D) dZ);rwa [show(l3 M s D).length=M.length+4 by simp[l3]] at this
theorem U0(dZ:cq M.length M=true){vs:List V}(L:Mem)(aq:cT (M.length+4) vs=true):hT (M.length+4) vs (ak M s D q j ver p++L)=true:=by
 have aa:M.length+4<=(ak M s D q j ver p++L).length:=by rw[dz,lL];omega
 simp only[hT,aq,decide_eq_true aa,jP lL L,UZ dZ,eQ]
end
theorem aML{M:Mem}{mp:List (Int×V)}{l:List Edge}(h:p1 M mp l)(sz:Nat)(rows:List (List V))(v f:Nat):p1 (M++[.arr sz rows v f]) mp l:=
 ⟨bY h.mapA _,h.ym,fun k v ao=>by
   obtain⟨a,ver,aa,af⟩:=h.wj k v ao;exact⟨a,ver,aa,bY af _⟩,h.inj,fun e he=>wt (by simp) _ (h.wo e he),by
   rw[nN,dz,nO (Nat.le_add_right _ _) M h.own];rfl⟩
theorem aMN{M:Mem}{mp:List (Int×V)}{l:List Edge}(h:p1 M mp l)(u:Int):∃v,nK .int (.slice [] .nil) false (.int .i64 u) (cI i_ mp)=some v/\v.under M.length=true/\
 ∀N:Mem,(∀(i:Nat)(B:a1),M[i]? =some B->N[i]? =some B)->iA v N=some (.int .i64 (gv u l).length)/\∀(t:Nat)(e:Edge),(gv u l)[t]? =some e->∃r,iz 3 v (.int .i64 (t:Int)) N=some r/\g4 3 true r N=some (.agg e.row):=by
 have ag:nK .int (.slice [] .nil) false (.int .i64 u) (cI i_ mp)=some (match fZ u mp with|some v=>v|none=>.slice [] .nil):=At vV _ _ _ _;cases ao:fZ u mp with
 |none=>
  rw[ao] at ag;refine⟨_,ag,rfl,fun N _=>?_⟩;rw[h.ym u ao];exact⟨rfl,fun t e he=>by simp at he⟩
 |some v=>
  rw[ao] at ag;obtain⟨a,ver,rfl,el⟩:=h.wj u v ao;refine⟨_,ag,?_,fun N dc=>?_⟩
  . have:=(bo.1 el).1;simp[V.under];exact this
  . have My:=dc a _ el
    refine⟨by simp[iA,My],fun t e he=>?_⟩;have aV:=(bo.1 he).1;refine⟨.fq a ver t 0,?_,?_⟩
    . rw[Vk (by omega),My]
      simp[aV]
    . rw[VG,My]
      simp[he,iM,Edge.row]
theorem aLi{M:Mem}{mp:List (Int×V)}(l:List Edge)(N s:Nat)(dc:N<=64)(la:s<N)(eN:∀e∈l,e.j2 N)(hlen:l.length<=4096)(bU:p1 M mp l):
 b9 au Jj [.int .i64 N,.map 0,.int .i64 s] M (fun v ah=>ah=M/\∃D,v=.slice (D.map jf) .cx/\yY l N s D):=by
 have pr:=fun M=>N9 (zero:=[.int .i64 0,.int .i64 0,.int .i64 0]) (sz:=3) (bytes:=24) (n:=N) (M:=M) (by omega) (by omega);have i9:(c5 N).length=N:=List.length_range;refine bP aF8 (by simp[GM]) ?_;have vu:∀(r:List (List V)),iA (.aZ M.length 0 0 N) (M++[.arr 3 r 0 0])=some (.int .i64 N):=fun r=>by simp[iA]
 simp-implicitDefEqProofs (disch:=omega) only[go_sem,GM,pr,vu];refine ge N (fun i vs du=>vs=[.map 0,.int .i64 s,.aZ M.length 0 0 N,.int .i64 N,.int .i64 i]/\du=M++[.arr 3 (((c5 N).take i).map (fun i:Nat=>jf ⟨(i:Int),-1,-1⟩)++f_ (N -i) [.int .i64 0,.int .i64 0,.int .i64 0]) 0 0]) ⟨rfl,by simp⟩ ?_ ?_
 . rintro i vs du hi aw ⟨rfl,rfl⟩
   have ad:(c5 N)[i]? =some i:=by simp[hi]
   have bW:=Me (c5 N) (fun i:Nat=>jf ⟨(i:Int),-1,-1⟩) [.int .i64 0,.int .i64 0,.int .i64 0] (i:=i) (by omega);have b8:=Md (l:=c5 N) (f:=fun i:Nat=>jf ⟨(i:Int),-1,-1⟩) (z:=[.int .i64 0,.int .i64 0,.int .i64 0]) (i:=i) (by omega);have cN:=Mf (f:=fun i:Nat=>jf ⟨(i:Int),-1,-1⟩) (z:=[.int .i64 0,.int .i64 0,.int .i64 0]) ad;rw[i9] at bW b8 cN;have dl:decide (i<N)=true:=decide_eq_true hi;have eS:=fun L=>eT M L;have kz:=fun L=>jM M L;simp only[jf] at cN bW b8;simp-implicitDefEqProofs (disch:=omega) only[go_sem,aw,jf,eS,kz,bW,b8,cN,dl];exact cS hi ⟨rfl,rfl⟩
 rintro vs du ⟨rfl,rfl⟩;have a_:((c5 N).take N).map (fun i:Nat=>jf ⟨(i:Int),-1,-1⟩)++f_ (N -N) [V.int .i64 0,.int .i64 0,.int .i64 0]=(qx N).map jf:=by
  rw[g_ (by rw[i9];omega),mS];simp[qx]
 rw[a_];simp-implicitDefEqProofs (disch:=omega) only[go_sem,db];refine ew Zr ?_;rintro v _ ⟨rfl,rfl⟩;simp-implicitDefEqProofs (disch:=omega) only[go_sem];have dZ:=bU.own;have iN:(M++[a1.arr 3 ((qx N).map jf) 0 0]++[a1.box [.dF j1 [],.slice [] .nil,.int .i64 0]])[M.length+1]? =some (.box [.dF j1 [],.slice [] .nil,.int .i64 0]):=by
  rw[en,i1];rfl
 have f8:cq (M++[a1.arr 3 ((qx N).map jf) 0 0]++[a1.box [.dF j1 [],.slice [] .nil,.int .i64 0]]).length (M++[a1.arr 3 ((qx N).map jf) 0 0]++[a1.box [.dF j1 [],.slice [] .nil,.int .i64 0]])=true:=by
  rw[en,nN,dz,nO (Nat.le_add_right _ _) M dZ];simp[cq,a1.under,cT,V.under]
 refine ew (aaX ⟨(s:Int),0,0⟩ iN f8) ?_;rintro v _ ⟨rfl,rfl⟩;have aI4:cP (M++[a1.arr 3 ((qx N).map jf) 0 0]++[a1.box [.dF j1 [],.slice [] .nil,.int .i64 0]]++[.box (dp.cells ⟨(s:Int),0,0⟩),.dead]) (M.length+1) ((M++[a1.arr 3 ((qx N).map jf) 0 0]++[a1.box [.dF j1 [],.slice [] .nil,.int .i64 0]]).length+1) [(⟨(s:Int),0,0⟩,0)] [] 0 1=
  ak M s (qx N) [(⟨(s:Int),0,0⟩,0)] [] 0 1:=by
  rw[ak,l3];simp
 rw[aI4];simp-implicitDefEqProofs (disch:=omega) only[go_sem];have aHs:∀(D:List dp)(j:List cj)(ver:Nat)(p:Int),b9 au xV [.ptr (M.length+1) 0] (ak M s D [] j ver p) (fun v ah=>v=pL []/\ah=ak M s D [] j ver p):=fun D j ver p=>aaU (zj dZ);have aHr:∀(D:List dp)(z:cj)(r j:List cj)(ver:Nat)(p:Int),(z::r).length<=1000000000->nm (z::r)->b9 au xV [.ptr (M.length+1) 0] (ak M s D (z::r) j ver p) (fun v ah=>v=pL (z::r)/\∃l' j',ah=ak M s D l' j' ver p/\Fb (z::r) z l'):=fun D z r j ver p aj ay=>aaV (zj dZ) aj ay;have aHt:∀(D:List dp)(q j:List cj)(ver:Nat)(p:Int)(x:dp)(L:Mem),cq (M.length+4+L.length) L=true->q.length<=100000000->0<=p/\p<=1000000000->b9 au xW [.ptr (M.length+1) 0,.agg x.cells] (ak M s D q j ver p++L) (fun v ah=>v=.tuple []/\∃l',ah=ak M s D l' [] (ver+1) (p+1)++L/\La q (x,p) l'):=fun D q j ver p x L cV aj ay=>by
  have ag:(l3 M s D).length=M.length+4:=by simp[l3]
  unfold ak;rw[qj (zj dZ)];refine b9.mono (aaY x ((zj dZ).app (by rw[ag];exact cV)) aj ay) ?_;rintro v ah ⟨aa,l',af,az⟩;exact⟨aa,l',by rw[qj (zj dZ)];exact af,az⟩
 have mM:∀(D:List dp)(q j:List cj)(ver:Nat)(p:Int)(L:Mem),(ak M s D q j ver p++L)[M.length]? =some (.arr 3 (D.map jf) 0 0):=fun D q j ver p L=>bY aJ5 L;have hQ:∀(D:List dp)(q j:List cj)(ver:Nat)(p:Int)(L:Mem),(ak M s D q j ver p++L)[M.length+4]? =L[0]? :=fun D q j ver p L=>by
  have:=eT (ak M s D q j ver p) L;rwa [lL] at this
 have us:∀(D:List dp)(q j:List cj)(ver:Nat)(p:Int)(L:Mem)(x:a1),(ak M s D q j ver p++L).set (M.length+4) x=ak M s D q j ver p++L.set 0 x:=fun D q j ver p L x=>by
  have:=jM (ak M s D q j ver p) L x;rwa [lL] at this
 have Wd:∀(D:List dp)(q j:List cj)(ver:Nat)(p:Int)(L:Mem),(ak M s D q j ver p++L)[M.length+4+1]? =L[1]? :=fun D q j ver p L=>by
  have:=i1 (ak M s D q j ver p) L 1;rwa [lL] at this
 have aM4:∀(D:List dp)(q j:List cj)(ver:Nat)(p:Int)(L:Mem)(x:a1),(ak M s D q j ver p++L).set (M.length+4+1) x=ak M s D q j ver p++L.set 1 x:=fun D q j ver p L x=>by
  have:=lj (ak M s D q j ver p) L 1 x;rwa [lL] at this
 have aM5:∀(D uP:List dp)(q j:List cj)(ver:Nat)(p:Int)(L:Mem),(ak M s D q j ver p++L).set M.length (.arr 3 (uP.map jf) 0 0)=ak M s uP q j ver p++L:=fun D uP q j ver p L=>by
  rw[nV (by rw[lL];omega),aJ6]
 have aM6:∀(D:List dp)(q j:List cj)(ver:Nat)(p:Int)(L:Mem),(ak M s D q j ver p++L)[0]? =some (.map (cI i_ mp)):=fun D q j ver p L=>bY (NC bU.mapA) L;have VY:∀(D:List dp){u:Int}{x:dp},D[u.toNat]? =some x->(D.map jf)[u.toNat]? =some [.int .i64 x.node,.int .i64 x.len,.int .i64 x.ec]:=fun D u x ad=>by rw[gX,ad];rfl
 have xL:nm [((⟨(s:Int),0,0⟩:dp),(0:Int))]:=fun i x y hi ad=>by
  rw[lX (by simp;omega)] at ad;cases ad
 refine lT (fun m vs du=>∃(D:List dp)(q j:List cj)(ver:Nat)(p:Int)(c:Nat),vs=[.map 0,.aZ M.length 0 0 N,.ptr (M.length+1) 0]/\du=ak M s D q j ver p/\n7 l N s c D q (fun _=>False)/\nm q/\0<=p/\p+(N -c:Nat)*4096<=300000/\m=q.length+(N -c)*4097/\m<=300000)
  (1+N*4097) ⟨qx N,_,[],0,1,0,rfl,rfl,aDI l N s la 0,xL,by omega,by omega,by simp,by omega⟩ ?_;rintro m vs du ⟨D,q,j,ver,p,c,rfl,rfl,d4,aG,sQ,qp,rfl,UL⟩;have aRp:c<=N:=by
  have:=List.countP_le_length (p:=fun x:dp=>decide (0<=x.ec)) (l:=D);rw[<-d4.l2,d4.len] at this;exact this
 cases q with
 |nil=>
  simp-implicitDefEqProofs (disch:=omega) only[go_sem];refine ew (aHs D j ver p) ?_;rintro v _ ⟨rfl,rfl⟩;simp-implicitDefEqProofs (disch:=omega) only[go_sem,pL,lL,hQ,us];rw[show Q9=.seq LB .ret from rfl,Yj,aD0];have aD:∀L:Mem,eY (ak M s D [] j ver p++L) M.length 20 (.aZ M.length 0 0 N)=some (.slice (D.map jf) .cx):=fun L=>by
   have:=zx (base:=M.length) (n:=19) (start:=0) (len:=N) (by simp) (mM D [] j ver p L) (by rw[eu,d4.len];omega);rw[lW,g_ (by rw[eu,d4.len];omega)] at this;exact this
  show kZ (eY (ak M s D [] j ver p++[_]) M.length 20 (.aZ M.length 0 0 N)) _;rw[aD];refine⟨?_,U1 _,D,rfl,aDG dc d4⟩;rw[U1,dZ,decide_eq_true (by rw[dz,lL];omega)];rfl
 |cons z r=>
  simp-implicitDefEqProofs (disch:=omega) only[go_sem];refine ew (aHr D z r j ver p (by omega) aG) ?_;rintro v _ ⟨rfl,j6,j',rfl,vB⟩;obtain⟨⟨aR6,aR7⟩,aQT,aR3,aR4,aR5⟩:=d4.qN z (by simp);obtain⟨x,ad⟩:∃x,D[z.1.node.toNat]? =some x:=⟨D[z.1.node.toNat]'(by rw[d4.len];omega),by simp⟩;have ov:=VY D ad;have e2:decide (z.1.node.toNat<N)=true:=decide_eq_true (by omega);have fV:decide (N<=D.length)=true:=decide_eq_true (by rw[d4.len];omega);simp-implicitDefEqProofs (disch:=omega) only[go_sem,pL,dp.cells,lL,mM,hQ,us,ov,e2,fV];refine a5 (fun aT=>?_) (fun aT=>?_)
  . simp-implicitDefEqProofs (disch:=omega) only[go_sem,lL]
    have mb:=vB.len;simp only[dC] at mb UL;refine Kp (j6.length+(N -c)*4097) (by omega) (U0 dZ _ (by simp[dr,aX,cT,V.under])) ⟨D,j6,j',ver,p,c,rfl,jP lL _,aDF d4 vB ad aT eN (by simp),vB.ay,sQ,qp,rfl,by omega⟩
  obtain⟨TX,xD⟩:=aDH d4 vB ad (by omega) eN (by simp);have bx:z.1.node.toNat<D.length:=by rw[d4.len];omega
  have bl:∀L:Mem,(ak M s D j6 j' ver p++L).set M.length (.arr 3 ((D.map jf).set z.1.node.toNat [.int .i64 z.1.node,.int .i64 z.1.len,.int .i64 z.1.ec]) 0 0)=ak M s (D.set z.1.node.toNat z.1) j6 j' ver p++L:=fun L=>by
   rw[<-aM5 D (D.set z.1.node.toNat z.1) j6 j' ver p L,List.map_set];rfl
  obtain⟨KM,kG,aKp,aq⟩:=aMN bU z.1.node;simp-implicitDefEqProofs (disch:=omega) only[go_sem,mM,hQ,ov,e2,fV,bl,aM6,kG];have mb:=vB.len;simp only[dC] at mb UL;have g3:(gv z.1.node l).length<=4096:=kb (List.length_filter_le _ _) hlen;have Va:∀(q j:List cj)(ver:Nat)(p:Int)(L:Mem),iA KM (ak M s (D.set z.1.node.toNat z.1) q j ver p++L)=some (.int .i64 (gv z.1.node l).length)/\∀(t:Nat)(e:Edge),(gv z.1.node l)[t]? =some e->∃r,iz 3 KM (.int .i64 (t:Int)) (ak M s (D.set z.1.node.toNat z.1) q j ver p++L)=some r/\g4 3 true r (ak M s (D.set z.1.node.toNat z.1) q j ver p++L)=some (.agg e.row):=fun q j ver p L=>
   aq _ fun i B bU=>bY (NC bU) L;have aJd:=fun q j ver p L=>(Va q j ver p L).1;have aRq:c+1<=N:=by
   have:=List.countP_le_length (p:=fun x:dp=>decide (0<=x.ec)) (l:=D.set z.1.node.toNat z.1);rw[<-TX.l2,eR,d4.len] at this;exact this
  have hu:(D.set z.1.node.toNat z.1)[z.1.node.toNat]? =some z.1:=eB bx;simp-implicitDefEqProofs (disch:=omega) only[go_sem,aJd];refine ej (gv z.1.node l) (fun t vs du=>∃(dm x4:List cj)(iQ:Nat)(f8:Int),vs=[.map 0,.aZ M.length 0 0 N,.ptr (M.length+1) 0,.ptr (M.length+4) 0,KM,.int .i64 (gv z.1.node l).length,.int .i64 t]/\du=ak M s (D.set z.1.node.toNat z.1) dm x4 iQ f8++[.box z.1.cells]/\
   n7 l N s (c+1) (D.set z.1.node.toNat z.1) dm (dB (gv z.1.node l) t)/\nm dm/\0<=f8/\f8<=p+t/\dm.length<=j6.length+t) ⟨j6,j',ver,p,rfl,rfl,RM TX (fun e he cD sK=>cD (aOg he sK)),vB.ay,sQ,by omega,by omega⟩ ?_ ?_;rotate_left
  . rintro vs du ⟨dm,x4,iQ,f8,rfl,rfl,aa,af,az,bh,bC⟩
    simp-implicitDefEqProofs (disch:=omega) only[go_sem,db,lL];refine Kp (dm.length+(N -(c+1))*4097) (by omega) (U0 dZ _ (by simp[dr,aX,cT,V.under])) ⟨_,dm,x4,iQ,f8,c+1,rfl,jP lL _,RM aa (fun e _ _ ⟨hy,aV,he⟩=>by have:=(bo.1 he).1;omega),af,az,by omega,rfl,by omega⟩
  rintro t e vs du he H4 pB ⟨dm,x4,iQ,f8,rfl,rfl,aa,af,az,bh,bC⟩;obtain⟨W2,oj,H0⟩:=(Va dm x4 iQ f8 [.box z.1.cells]).2 t e he;have aIg:=(oU.1 (dQ he)).1;obtain⟨⟨s1,dq⟩,⟨d1,d2⟩,gL,kS⟩:=eN e aIg;obtain⟨y,aE⟩:∃y,(D.set z.1.node.toNat z.1)[e.dst.toNat]? =some y:=⟨(D.set z.1.node.toNat z.1)[e.dst.toNat]'(by rw[eR,d4.len];omega),by simp⟩;have xS:=VY _ aE;have jx:decide (e.dst.toNat<N)=true:=decide_eq_true (by omega);have n8:decide (N<=(D.set z.1.node.toNat z.1).length)=true:=decide_eq_true (by rw[eR,d4.len];omega);simp only[dp.cells] at oj H0;simp-implicitDefEqProofs (disch:=omega) only[go_sem,pB,oj,H0,Edge.row,dp.cells,en,lL,mM,Wd,aM4,xS,jx,n8];have U_:KM.under (M.length+4+1)=true:=wt (show M.length<=M.length+4+1 by omega) _ aKp;have aRS:z.1.len<=1000000/\z.1.ec<=64:=⟨by omega,by omega⟩;have Wx:∀(D:List dp)(q j:List cj)(ver:Nat)(p:Int)(vs:List V)(L:Mem),cT (M.length+4+1) vs=true->hT (M.length+4+1) vs (ak M s D q j ver p++([a1.box [.int .i64 z.1.node,.int .i64 z.1.len,.int .i64 z.1.ec]]++L))=true:=fun D q j ver p vs L DD=>by
   have bI:(ak M s D q j ver p++[a1.box [.int .i64 z.1.node,.int .i64 z.1.len,.int .i64 z.1.ec]]).length=M.length+4+1:=by rw[dz,lL];rfl
   have ce:decide (M.length+4+1<=(ak M s D q j ver p++([a1.box [.int .i64 z.1.node,.int .i64 z.1.len,.int .i64 z.1.ec]]++L)).length)=true:=decide_eq_true (by rw[<-en,dz,bI];omega);rw[hT,ce,DD,<-en,jP bI L,nN,nO (Nat.le_succ _) _ (UZ dZ)];rfl
  have XI:∀(D:List dp)(q j:List cj)(ver:Nat)(p:Int)(L:Mem),(ak M s D q j ver p++([a1.box [.int .i64 z.1.node,.int .i64 z.1.len,.int .i64 z.1.ec]]++L)).take (M.length+4+1)=ak M s D q j ver p++[a1.box z.1.cells]:=fun D q j ver p L=>by
   rw[<-en,jP (by rw[dz,lL];rfl) L];rfl
  refine a5 (fun a2=>?_) (fun a2=>?_)
  . have a4:IntKind.i64.wrap (z.1.len+e.w)=z.1.len+e.w:=by rw[jG];omega
    simp-implicitDefEqProofs (disch:=omega) only[go_sem,hQ,Wd];refine ew (aHt (D.set z.1.node.toNat z.1) dm x4 iQ f8 ⟨e.dst,z.1.len+e.w,z.1.ec+1⟩ _ (by simp[cq,a1.under,cT,V.under]) (by omega) (by omega)) ?_;rintro v _ ⟨rfl,hc,rfl,zY⟩;have aRJ:=zY.len;simp-implicitDefEqProofs (disch:=omega) only[go_sem,lL];refine dJ H4 (Wx _ _ _ _ _ _ [_] (by simp[dr,aX,cT,V.under,U_];omega)) ⟨hc,[],iQ+1,f8+1,rfl,XI _ _ _ _ _ [_],aDJ aa he eN hu aQT (by omega) xD aE a2 zY,zY.ay af,by omega,by omega,by omega⟩
  . simp-implicitDefEqProofs (disch:=omega) only[go_sem,lL]
    refine dJ H4 (Wx _ _ _ _ _ _ [_] (by simp[dr,aX,cT,V.under,U_];omega)) ⟨dm,x4,iQ,f8,rfl,XI _ _ _ _ _ [_],aDK aa he eN hu xD aE (by omega),af,az,by omega,by omega⟩
end Go.aL.C
namespace Go.aL.C
open Go.aL
def kJ(D:List dp):V:=.slice (D.map fun x=>[.int .i64 x.len]) .cx
theorem YC(l:List Edge)(c:c4)(N:Nat)(dc:N<=64)(eN:∀e∈l,e.j2 N)(hlen:l.length<=4096):
 bT au Jh [.int .i64 N,.slice (l.map Edge.row) c] (fun v=>∃D:Nat->List dp,v=.tuple [.slice ((c5 N).map fun i=>[kJ (D i)]) .cx,.int .i64 0]/\∀i,i<N->yY l N i (D i)):=by
 have pr:=fun M=>N9 (zero:=[.slice [] .nil]) (sz:=1) (bytes:=24) (n:=N) (M:=M) (by omega) (by omega);have i9:(c5 N).length=N:=List.length_range;refine bP aF5 (by simp[GJ]) ?_;simp-implicitDefEqProofs (disch:=omega) only[go_sem,GJ];refine fw (aOZ l c N dc eN hlen) ?_;rintro v rfl;simp-implicitDefEqProofs (disch:=omega) only[go_sem];refine ew (aMQ l c hlen) ?_;rintro v M ⟨rfl,mp,aHm⟩;have vu:∀(r:List (List V)),iA (.aZ M.length 0 0 N) (M++[.arr 1 r 0 0])=some (.int .i64 N):=fun r=>by simp[iA]
 simp-implicitDefEqProofs (disch:=omega) only[go_sem,pr,vu];refine ge N (fun i vs du=>∃D:Nat->List dp,vs=[.int .i64 N,.map 0,.aZ M.length 0 0 N,.int .i64 N,.int .i64 i]/\du=M++[.arr 1 (((c5 N).take i).map (fun k=>[kJ (D k)])++f_ (N -i) [.slice [] .nil]) 0 0]/\∀k,k<i->yY l N k (D k)) ⟨fun _=>[],rfl,by simp,fun k ao=>absurd ao (e8 _)⟩ ?_ ?_
 . rintro i vs du hi aw ⟨D,rfl,rfl,d4⟩
   simp-implicitDefEqProofs (disch:=omega) only[go_sem,aw];refine ew (aLi l N i dc hi eN hlen (aML aHm 1 _ 0 0)) ?_;rintro v _ ⟨rfl,KV,rfl,TY⟩;simp-implicitDefEqProofs (disch:=omega) only[go_sem];refine fw (aLF KV .cx (by rw[TY.len];exact dc)) ?_;rintro v rfl;let sj:Nat->List dp:=fun k=>if k=i then KV else D k
   have ad:(c5 N)[i]? =some i:=by simp[hi]
   have hm:((c5 N).take i).map (fun k=>[kJ (D k)])=((c5 N).take i).map (fun k=>[kJ (sj k)]):=List.map_congr_left fun k ao=>by
    have:k<i:=by
     obtain⟨q,aG,aJV⟩:=Ay ao;have:=(bo.1 aJV);obtain⟨aa,af⟩:=this;simp at af;omega
    simp[sj,show k≠i by omega]
   rw[hm];have bW:=Me (c5 N) (fun k=>[kJ (sj k)]) [.slice [] .nil] (i:=i) (by omega);have b8:=Md (l:=c5 N) (f:=fun k=>[kJ (sj k)]) (z:=[.slice [] .nil]) (i:=i) (by omega);have cN:=Mf (f:=fun k=>[kJ (sj k)]) (z:=[.slice [] .nil]) ad;rw[i9] at bW b8 cN;have dl:decide (i<N)=true:=decide_eq_true hi;have bd:[kJ (sj i)]=[.slice (KV.map fun x=>[.int .i64 x.len]) .cx]:=by simp[sj,kJ]
   rw[bd] at cN;have eS:=fun L=>eT M L;have kz:=fun L=>jM M L;simp-implicitDefEqProofs (disch:=omega) only[go_sem,eS,kz,bW,b8,cN,dl];refine cS hi ⟨sj,rfl,rfl,fun k ao=>?_⟩;by_cases gH:k=i
   . subst gH;simp only[sj,if_true];exact TY
   . simp only[sj,if_neg gH];exact d4 k (by omega)
 rintro vs du ⟨D,rfl,rfl,d4⟩;have a_:((c5 N).take N).map (fun k=>[kJ (D k)])++f_ (N -N) [V.slice [] .nil]=(c5 N).map fun k=>[kJ (D k)]:=by
  rw[g_ (by rw[i9];omega),mS];simp
 rw[a_];simp-implicitDefEqProofs (disch:=omega) only[go_sem,db];rw[aDY];have aD:eY (M++[.arr 1 ((c5 N).map fun k=>[kJ (D k)]) 0 0]) 0 20 (.tuple [.aZ M.length 0 0 N,.int .i64 0])=some (.tuple [.slice ((c5 N).map fun i=>[kJ (D i)]) .cx,.int .i64 0]):=by
  have:=zx (M:=M++[.arr 1 ((c5 N).map fun k=>[kJ (D k)]) 0 0]) (base:=0) (n:=18) (start:=0) (len:=N) (id:=M.length) (ver:=0) (by simp) (eT M _) (by simp);rw[lW,g_ (by simp)] at this;show((jI (eY _ 0 19) [_,_]).map V.tuple)=_;simp only[jI];rw[this];rfl
 show kZ (eY (M++[.arr 1 ((c5 N).map fun k=>[kJ (D k)]) 0 0]) 0 20 (.tuple [.aZ M.length 0 0 N,.int .i64 0])) _;rw[aD];exact⟨by simp[V.under,cT,cq],⟨D,rfl,d4⟩,by simp,rfl⟩
end Go.aL.C
namespace Go.aL.C
open Go.aL
def kM(k:Int×Int):V:=.agg [.int .i64 k.1,.int .i64 k.2,.bool false]
theorem Wo:kd (.cells [.int,.int,.bool]) kM:=⟨fun _=>rfl,fun x y=>by
 obtain⟨a,b⟩:=x;obtain⟨c,d⟩:=y;simp[kM,h1,gG,hE,Bool.decide_and]⟩
def uZ(cr:Bool)(p:Path):Prop:=cr=true->p.free=true
theorem V0{α:Type}[DecidableEq α](x:α)(v:V):∀l:List (α×V),∀e∈h3 x v l,e=(x,v)∨e∈l
 |[],e,he=>by simp[h3] at he;exact .inl he
 |a::l,e,he=>by
  rw[h3] at he;split at he
  . rcases jt.1 he with h|h
    . exact .inl h
    . exact .inr (by simp[h])
  . rcases jt.1 he with h|h
    . exact .inr (by simp[h])
    . rcases V0 x v l e h with h|h
      . exact .inl h
      . exact .inr (by simp[h])
theorem Vy{α:Type}[DecidableEq α](x:α)(v:V):∀l:List (α×V),(h3 x v l).length<=l.length+1
 |[]=>by simp[h3]
 |a::l=>by
  rw[h3];split
  . simp
  . simp only[dC];have:=Vy x v l;omega
theorem Ms{α:Type}[DecidableEq α]{x:α}{v:V}{l:List (α×V)}(h:fZ x l=some v):(x,v)∈l:=by
 unfold fZ at h;obtain⟨e,he,rfl⟩:=dK.1 h;have hm:=List.mem_of_find?_eq_some he;have ay:=List.find?_some he;simp only[decide_eq_true_eq] at ay;subst ay;exact hm
structure yV(l:List Path)(cr:Bool)(i:Nat)(mp:List ((Int×Int)×V)):Prop where
 has:∀(k:Nat)(p:Path),k<i->l[k]? =some p->uZ cr p->∃n,fZ (p.src,p.dst) mp=some (.int .i64 n)/\n<=p.dL
 of:∀e∈mp,∃p∈l,uZ cr p/\e.1=(p.src,p.dst)/\e.2=.int .i64 p.dL
 len:mp.length<=i
theorem Lv{l:List Path}{cr:Bool}{i:Nat}{mp:List ((Int×Int)×V)}{p:Path}(h:yV l cr i mp)(ay:l[i]? =some p)(ak:uZ cr p->∃n,fZ (p.src,p.dst) mp=some (.int .i64 n)/\n<=p.dL):yV l cr (i+1) mp:=
 ⟨fun k q ao aG aD=>by
   rcases ju.1 ao with aa|aa
   . exact h.has k q aa aG aD
   . subst aa;rw[ay] at aG;cases aG;exact ak aD,h.of,Nat.le_succ_of_le h.len⟩
theorem Fv{l:List Path}{cr:Bool}{i:Nat}{mp:List ((Int×Int)×V)}{p:Path}(h:yV l cr i mp)(ay:l[i]? =some p)(aD:uZ cr p)(ak:∀n,fZ (p.src,p.dst) mp=some (.int .i64 n)->p.dL<=n):yV l cr (i+1) (h3 (p.src,p.dst) (.int .i64 p.dL) mp):=
 ⟨fun k q ao aG vo=>by
   rw[vc];split
   . rename_i he
     refine⟨p.dL,rfl,?_⟩;rcases ju.1 ao with aa|aa
     . obtain⟨n,af,az⟩:=h.has k q aa aG vo
       rw[he] at af;have:=ak n af;omega
     . subst aa;rw[ay] at aG;cases aG;omega
   . rename_i cD
     rcases ju.1 ao with aa|aa
     . exact h.has k q aa aG vo
     . subst aa;rw[ay] at aG;cases aG;exact absurd rfl cD,
  fun e he=>by
   rcases V0 _ _ _ e he with aa|aa
   . subst aa;exact⟨p,dQ ay,aD,rfl,rfl⟩
   . exact h.of e aa,kb (Vy _ _ _) (Nat.succ_le_succ h.len)⟩
structure KX(l:List Path)(cr:Bool)(E:List Edge):Prop where
 has:∀p∈l,uZ cr p->∃e∈E,e.src=p.src/\e.dst=p.dst/\e.w<=p.dL
 of:∀e∈E,∃p∈l,uZ cr p/\e.src=p.src/\e.dst=p.dst/\e.w=p.dL
def PI(e:(Int×Int)×V)(x:Edge):Prop:=e.1=(x.src,x.dst)/\e.2=.int .i64 x.w
structure P4(mp:List ((Int×Int)×V))(seen:List Nat)(E:List Edge):Prop where
 has:∀i∈seen,∀e,mp[i]? =some e->∃x∈E,PI e x
 of:∀x∈E,∃e∈mp,PI e x
theorem aD5{l:List Path}{cr:Bool}{mp:List ((Int×Int)×V)}{seen:List Nat}{E:List Edge}(bU:yV l cr l.length mp)(l5:P4 mp seen E)(eg:∀i,i<mp.length->i∈seen):KX l cr E:=
 ⟨fun p ay aD=>by
   obtain⟨k,ao⟩:=ir ay;obtain⟨n,aa,af⟩:=bU.has k p (bo.1 ao).1 ao aD;obtain⟨i,hi⟩:=ir (Ms aa);obtain⟨x,ad,az,bh⟩:=l5.has i (eg i (bo.1 hi).1) _ hi;refine⟨x,ad,(congrArg Prod.fst az).symm,(congrArg Prod.snd az).symm,?_⟩;have bC:n=x.w:=by injection bh
   omega,
  fun x ad=>by
   obtain⟨e,he,aa,af⟩:=l5.of x ad;obtain⟨p,ay,az,bh,bC⟩:=bU.of e he;rw[bh] at aa;rw[bC] at af;refine⟨p,ay,az,(congrArg Prod.fst aa).symm,(congrArg Prod.snd aa).symm,?_⟩;injection af with _ ca
   exact ca.symm⟩
theorem aEP{α:Type}(l:List α):l.filter (fun _=>true)=l:=by simp
def AS(n:Nat)(seen:List Nat):Nat:=((c5 n).filter fun i=>decide (i∉seen)).length
theorem X4{n i:Nat}{seen:List Nat}(hi:i<n)(aK:i∉seen):AS n (seen++[i])<AS n seen:=by
 unfold AS;have key:∀l:List Nat,(l.filter fun j=>decide (j∉seen++[i])).length<=(l.filter fun j=>decide (j∉seen)).length/\(i∈l->(l.filter fun j=>decide (j∉seen++[i])).length<(l.filter fun j=>decide (j∉seen)).length):=by
  intro l;induction l with
  |nil=>exact⟨cH _,fun h=>by cases h⟩
  |cons a l bu=>
   obtain⟨aa,af⟩:=bu;by_cases a9:a=i
   . subst a9
     have a4:decide (a∉seen++[a])=false:=by simp
     have bd:decide (a∉seen)=true:=by simp[aK]
     simp only[List.filter_cons,a4,bd,if_true,dC,jh,if_false];exact⟨by omega,fun _=>by omega⟩
   . have a4:decide (a∉seen++[i])=decide (a∉seen):=by simp[a9]
     simp only[List.filter_cons,a4];refine⟨?_,fun hm=>?_⟩
     . split<;>(try simp only[dC])<;>omega
     . have:=af ((jt.1 hm).resolve_left fun q=>a9 q.symm)
       split<;>(try simp only[dC])<;>omega
 exact(key _).2 (by simp[hi])
theorem aMp{α:Type}(cL:α->V)(l:List (α×V)):(cI cL l).length=l.length:=by simp[cI]
theorem aMo{α:Type}{cL:α->V}{l:List (α×V)}{i:Nat}{cB:V×V}(h:(cI cL l)[i]? =some cB):∃e,l[i]? =some e/\cB=(cL e.1,e.2):=by
 unfold cI at h;rw[gX] at h;obtain⟨e,he,rfl⟩:=dK.1 h;exact⟨e,he,rfl⟩
theorem aMi{zero:List V}{sz bytes n:Nat}{M:Mem}(aK:n<=5000)(aj:bytes<=1000):m8 zero sz bytes (.int .i64 0) (.int .i64 (n:Int)) M=some (.aZ M.length 0 0 0,M++[.arr sz [] 0 0]):=by
 have aa:(n:Int)*(bytes:Int)<=5000*1000:=Int.mul_le_mul (by omega) (by omega) (by omega) (by omega);have b8:decide ((0:Int)<=(n:Int))=true:=decide_eq_true (by omega);have cN:decide ((n:Int)*(bytes:Int)<=2^48)=true:=decide_eq_true (by omega);have dl:decide ((n:Int)<2^62)=true:=decide_eq_true (by omega);simp only[m8,b8,cN,dl,eQ,Int.le_refl,decide_true,cond_true];rfl
structure YW(l:List Path)(N:Nat)(cr:Bool)(D:Nat->List dp):Prop where
 aRg:∃E,KX l cr E/\∀i,i<N->yY E N i (D i)
def u5(N:Nat)(D:Nat->List dp):V:=.slice ((c5 N).map fun i=>[kJ (D i)]) .cx
theorem RR(l:List Path)(c:c4)(N:Nat)(cr:Bool)(dc:N<=64)(eN:∀p∈l,p.j2 N)(hlen:l.length<=4096):
 bT au DU [.slice (l.map Path.row) c,.int .i64 N,.bool cr] (fun v=>∃D,v=u5 N D/\YW l N cr D):=by
 refine bP aFE (by simp[Gp]) ?_;simp-implicitDefEqProofs (disch:=omega) only[go_sem,Gp];refine ej l (fun i vs M=>∃mp,vs=[.int .i64 N,.bool cr,.map 0,.slice (l.map Path.row) c,.int .i64 l.length,.int .i64 i]/\M=[.map (cI kM mp)]/\yV l cr i mp) ⟨[],rfl,rfl,⟨(fun k p ao=>absurd ao (e8 _)),(fun e he=>by cases he),cH _⟩⟩ ?_ ?_
 . rintro i p vs M ay hi aw ⟨mp,rfl,rfl,bU⟩
   simp-implicitDefEqProofs (disch:=omega) only[go_sem,aw,ay,Path.row];have a4:=At Wo (.int .i64 0) true (p.src,p.dst) mp;simp only[kM] at a4;have bd:=Pf Wo (p.src,p.dst) (v:=.int .i64 p.dL) mp rfl;simp only[kM] at bd;have NH:∀n,ni n (cI kM mp)=true:=fun n=>wq n _ fun e he=>by
    obtain⟨o,_,_,_,aq⟩:=bU.of e he;rw[aq];rfl
   have qs:∀n,ni n (cI kM (h3 (p.src,p.dst) (.int .i64 p.dL) mp))=true:=fun n=>wq n _ (KL _ rfl _ fun e he=>by
    obtain⟨o,_,_,_,aq⟩:=bU.of e he;rw[aq];rfl);refine ck (fun aT=>?_) (fun aT=>?_);rotate_left
   . simp-implicitDefEqProofs (disch:=omega) only[go_sem]
     have aD:uZ cr p:=fun q=>by rw[aT] at q;cases q
     cases ao:fZ (p.src,p.dst) mp with
     |none=>
      rw[ao] at a4;simp only at a4;simp-implicitDefEqProofs (disch:=omega) only[go_sem,a4,bd];exact dJ hi (by simp[hT,dr,aX,cT,V.under,cq,a1.under,qs]) ⟨_,rfl,rfl,Fv bU ay aD (fun n aK=>by rw[ao] at aK;cases aK)⟩
     |some v=>
      obtain⟨o,aA,_,_,aq⟩:=bU.of _ (Ms ao);simp only at aq;subst aq;rw[ao] at a4;simp only at a4;simp-implicitDefEqProofs (disch:=omega) only[go_sem,a4];refine a5 (fun bJ=>?_) (fun bJ=>?_)
      . simp-implicitDefEqProofs (disch:=omega) only[go_sem,bd]
        exact dJ hi (by simp[hT,dr,aX,cT,V.under,cq,a1.under,qs]) ⟨_,rfl,rfl,Fv bU ay aD (fun n aK=>by rw[ao] at aK;injection aK with aK;injection aK with _ aK;omega)⟩
      . simp-implicitDefEqProofs (disch:=omega) only[go_sem]
        exact dJ hi (by simp[hT,dr,aX,cT,V.under,cq,a1.under,NH]) ⟨_,rfl,rfl,Lv bU ay (fun _=>⟨_,ao,by omega⟩)⟩
   simp-implicitDefEqProofs (disch:=omega) only[go_sem];refine ck (fun a2=>?_) (fun a2=>?_);rotate_left
   . simp-implicitDefEqProofs (disch:=omega) only[go_sem]
     exact dJ hi (by simp[hT,dr,aX,cT,V.under,cq,a1.under,NH]) ⟨_,rfl,rfl,Lv bU ay (fun aD=>by rw[aD aT] at a2;cases a2)⟩
   simp-implicitDefEqProofs (disch:=omega) only[go_sem];have aD:uZ cr p:=fun _=>a2;cases ao:fZ (p.src,p.dst) mp with
   |none=>
    rw[ao] at a4;simp only at a4;simp-implicitDefEqProofs (disch:=omega) only[go_sem,a4,bd];exact dJ hi (by simp[hT,dr,aX,cT,V.under,cq,a1.under,qs]) ⟨_,rfl,rfl,Fv bU ay aD (fun n aK=>by rw[ao] at aK;cases aK)⟩
   |some v=>
    obtain⟨o,aA,_,_,aq⟩:=bU.of _ (Ms ao);simp only at aq;subst aq;rw[ao] at a4;simp only at a4;simp-implicitDefEqProofs (disch:=omega) only[go_sem,a4];refine a5 (fun bJ=>?_) (fun bJ=>?_)
    . simp-implicitDefEqProofs (disch:=omega) only[go_sem,bd]
      exact dJ hi (by simp[hT,dr,aX,cT,V.under,cq,a1.under,qs]) ⟨_,rfl,rfl,Fv bU ay aD (fun n aK=>by rw[ao] at aK;injection aK with aK;injection aK with _ aK;omega)⟩
    . simp-implicitDefEqProofs (disch:=omega) only[go_sem]
      exact dJ hi (by simp[hT,dr,aX,cT,V.under,cq,a1.under,NH]) ⟨_,rfl,rfl,Lv bU ay (fun _=>⟨_,ao,by omega⟩)⟩
 rintro vs M ⟨mp,rfl,rfl,bU⟩;have cV:(cI kM mp).length=mp.length:=aMp _ _;have aJu:=bU.len;have pr:=aMi (zero:=[.int .i64 0,.int .i64 0,.int .i64 0]) (sz:=3) (bytes:=24) (n:=mp.length) (M:=[.map (cI kM mp)]) (by omega) (by omega);simp-implicitDefEqProofs (disch:=omega) only[go_sem,db,Ej,EG,pr,cV];refine lT (fun m vs M=>∃(seen:List Nat)(E:List Edge)(ver:Nat),m=AS mp.length seen/\vs=[.int .i64 N,.aZ 1 ver 0 E.length,.ptr 2 0]/\M=[.map (cI kM mp),.arr 3 (E.map Edge.row) ver 0,.iter 0 mp.length seen]/\P4 mp seen E/\E.length+m<=mp.length) mp.length
  ⟨[],[],0,by simp[AS,aEP],rfl,rfl,⟨(fun i hi=>by cases hi),(fun x ad=>by cases ad)⟩,by simp⟩ ?_;rintro m vs M ⟨seen,E,ver,hm,rfl,rfl,l5,hle⟩;simp-implicitDefEqProofs (disch:=omega) only[go_sem];have lI:[a1.map (cI kM mp),.arr 3 (E.map Edge.row) ver 0,.iter 0 mp.length seen][2]? =some (.iter 0 (cI kM mp).length seen):=by rw[cV];rfl
 refine aMV lI rfl (fun eg=>?_) (fun i cB qk sP=>?_)
 . rw[cV] at eg
   have i2:=aD5 bU l5 eg;have aHc:∀e∈E,e.j2 N:=fun e he=>by
    obtain⟨p,ay,_,aa,af,az⟩:=i2.of e he;obtain⟨bW,b8,cN,dl⟩:=eN p ay;exact⟨by rw[aa];exact bW,by rw[af];exact b8,by rw[az];exact cN,by rw[az];exact dl⟩
   obtain⟨fz,Nn⟩:∃fz,oC (.aZ 1 ver 0 E.length) [.map (cI kM mp),.arr 3 (E.map Edge.row) ver 0,.iter 0 mp.length seen]=some (.slice (E.map Edge.row) .cx,[.map (cI kM mp),.arr 3 (E.map Edge.row) ver fz,.iter 0 mp.length seen]):=by
    cases E with
    |nil=>exact⟨0,by simp[oC]⟩
    |cons e E=>exact⟨E.length+1,by simp[oC];rw[g_ (by simp)]⟩
   simp-implicitDefEqProofs (disch:=omega) only[go_sem,Nn];refine fw (YC E .cx N dc aHc (by omega)) ?_;rintro v ⟨D,rfl,d4⟩;simp-implicitDefEqProofs (disch:=omega) only[go_sem];exact⟨D,rfl,E,i2,d4⟩
 rw[cV];obtain⟨e,he,rfl⟩:=aMo qk;obtain⟨p,ay,aD,aa,af⟩:=bU.of e (dQ he);obtain⟨k,v⟩:=e;simp only at aa af;subst aa af;have km:i<mp.length:=(bo.1 he).1;have aIi:∀B:a1,zm (.ptr 2 0) [.map (cI kM mp),B,.iter 0 mp.length (seen++[i])]=some (.tuple [.agg [.int .i64 p.src,.int .i64 p.dst,.bool false],.int .i64 p.dL],[.map (cI kM mp),B,.iter 0 mp.length (seen++[i])]):=fun B=>by
  have aa:(cI kM mp).length.beq mp.length=true:=by rw[cV];simp
  simp[zm,qk,cV,kM]
 have i4:∀K:a1,dX false 3 24 (.aZ 1 ver 0 E.length) (.slice [[.int .i64 p.src,.int .i64 p.dst,.int .i64 p.dL]] .full) [.map (cI kM mp),.arr 3 (E.map Edge.row) ver 0,.iter 0 mp.length (seen++[i]),K]=
  some (.aZ 1 (ver+1) 0 (E.length+1),[.map (cI kM mp),.arr 3 ((E++[(⟨p.src,p.dst,p.dL⟩:Edge)]).map Edge.row) (ver+1) 0,.iter 0 mp.length (seen++[i]),K]):=fun K=>by
  have aw:decide ((E.length+1)*48<=2^48)=true:=decide_eq_true (by omega);simp only[dX,eK,fr,dC,gY,ee,beq_self_eq_true,cond_true,g0,List.getElem?_cons_succ,ji,eu,eQ,Nat.reduceMul,aw];simp[Edge.row]
 simp-implicitDefEqProofs (disch:=omega) only[go_sem,aIi,i4];refine Kp (AS mp.length (seen++[i])) (by rw[hm];exact X4 km sP) ?_ ⟨seen++[i],E++[⟨p.src,p.dst,p.dL⟩],ver+1,rfl,by rw[dz];rfl,rfl,⟨fun k ao e tO=>?_,fun x ad=>?_⟩,?_⟩
 . have qs:∀n,ni n (cI kM mp)=true:=fun n=>wq n _ fun e he=>by
    obtain⟨o,_,_,_,aq⟩:=bU.of e he;rw[aq];rfl
   simp[hT,dr,aX,cT,V.under,cq,a1.under,qs]
 . rcases g9.1 ao with h|h
   . obtain⟨x,ad,af⟩:=l5.has k h e tO
     exact⟨x,by simp[ad],af⟩
   . rw[gZ] at h;subst h
     rw[he] at tO;cases tO;exact⟨⟨p.src,p.dst,p.dL⟩,by simp,rfl,rfl⟩
 . rcases g9.1 ad with h|h
   . exact l5.of x h
   . rw[gZ] at h;subst h
     exact⟨_,dQ he,rfl,rfl⟩
 . have:=X4 km sP
   rw[dz,List.length_singleton];omega
end Go.aL.C
namespace Go.aL.C
open Go.aL
def fM(a b:Int):Int:=if a<b then-1 else if b<a then 1 else 0
def pK:List Int->Int
 |[]=>0
 |x::l=>if x=0 then pK l else x
def o5(p q:Path):Int:=pK [fM p.src q.src,fM p.dst q.dst,fM p.dL q.dL]
theorem JL(a:Int):bT au DN [.int .i64 a] (fun v=>v=.bool false):=by
 refine bP aFo (by simp[F9]) ?_;simp-implicitDefEqProofs (disch:=omega) only[go_sem,F9]
theorem uO(a b:Int):bT au ua [.int .i64 a,.int .i64 b] (fun v=>v=.int .i64 (fM a b)):=by
 refine bP aFm (by simp[F7]) ?_;simp-implicitDefEqProofs (disch:=omega) only[go_sem,F7];first|refine b1 (JL a) ?_|refine bV (JL a) ?_
 simp-implicitDefEqProofs (disch:=omega) only[go_sem];first|refine b1 (JL b) ?_|refine bV (JL b) ?_
 simp-implicitDefEqProofs (disch:=omega) only[go_sem];refine a5 (fun g=>?_) (fun g=>?_)
 . simp-implicitDefEqProofs (disch:=omega) only[go_sem]
   rw[fM,if_pos g]
 simp-implicitDefEqProofs (disch:=omega) only[go_sem];refine a5 (fun a2=>?_) (fun a2=>?_)
 . simp-implicitDefEqProofs (disch:=omega) only[go_sem]
   rw[fM,if_neg g,if_pos a2]
 simp-implicitDefEqProofs (disch:=omega) only[go_sem];rw[fM,if_neg g,if_neg a2]
theorem Fa(l:List Int)(c:c4)(ag:l.length<=10):bT au DM [.slice (l.map fun n=>[.int .i64 n]) c] (fun v=>v=.int .i64 (pK l)):=by
 refine bP aFn (by simp[F8]) ?_;simp-implicitDefEqProofs (disch:=omega) only[go_sem,F8];refine ej l (fun i vs M=>vs=[.int .i64 0,.slice (l.map fun n=>[.int .i64 n]) c,.int .i64 l.length,.int .i64 i]/\M=[]/\pK l=pK (l.drop i)) ⟨rfl,rfl,rfl⟩ ?_ ?_;rotate_left
 . rintro vs M ⟨rfl,rfl,h⟩
   simp-implicitDefEqProofs (disch:=omega) only[go_sem,db];rw[h,List.drop_length];rfl
 rintro i n vs M aK hi aw ⟨rfl,rfl,h⟩;have vj:l.drop i=n::l.drop (i+1):=by
  have:=qU hi;rw[this];have e:l[i]=n:=by have:=gg hi;rw[this] at aK;cases aK;rfl
  rw[e]
 simp-implicitDefEqProofs (disch:=omega) only[go_sem,aw,aK];refine a5 (fun g=>?_) (fun g=>?_)
 . simp-implicitDefEqProofs (disch:=omega) only[go_sem]
   refine dJ hi rfl ⟨rfl,rfl,?_⟩;rw[h,vj,pK,if_pos g]
 . simp-implicitDefEqProofs (disch:=omega) only[go_sem]
   rw[h,vj,pK,if_neg g]
theorem o6(p q:Path):bT au DT [.agg p.row,.agg q.row] (fun v=>v=.int .i64 (o5 p q)):=by
 refine bP aFC (by simp[Gn]) ?_;simp-implicitDefEqProofs (disch:=omega) only[go_sem,Gn,Path.row];refine bV (uO p.src q.src) ?_;simp-implicitDefEqProofs (disch:=omega) only[go_sem];refine bV (uO p.dst q.dst) ?_;simp-implicitDefEqProofs (disch:=omega) only[go_sem];first|refine b1 (uO p.dL q.dL) ?_|refine bV (uO p.dL q.dL) ?_
 simp-implicitDefEqProofs (disch:=omega) only[go_sem];first|refine b1 (Fa [fM p.src q.src,fM p.dst q.dst,fM p.dL q.dL] .full (by simp)) ?_|refine bV (Fa [fM p.src q.src,fM p.dst q.dst,fM p.dL q.dL] .full (by simp)) ?_
 simp-implicitDefEqProofs (disch:=omega) only[go_sem];rfl
structure gi(M:Mem)(x:V)(l:List Path):Prop where
 len:∀L,iA x (M++L)=some (.int .i64 l.length)
 at_:∀(i:Nat)(p:Path),l[i]? =some p->∃a,∀L,iz 4 x (.int .i64 i) (M++L)=some a/\g4 4 true a (M++L)=some (.agg p.row)
 wo:V.under M.length x=true
 own:cq M.length M=true
theorem OY{M:Mem}(h:cq M.length M=true):gi M (.slice [] .nil) []:=⟨fun _=>rfl,fun i p hi=>by simp at hi,rfl,h⟩
theorem OX{M:Mem}{a ver fz:Nat}{l:List Path}(h:cq M.length M=true)(a7:M[a]? =some (.arr 4 (l.map Path.row) ver fz)):gi M (.aZ a ver 0 l.length) l:=by
 have a9:=(bo.1 a7).1;refine⟨fun L=>by simp[iA,bY a7 L],fun i p hi=>?_,by simp[V.under];exact a9,h⟩;have km:=(bo.1 hi).1;have a8:decide (0<=(i:Int))=true:=decide_eq_true (by omega);have aa:decide (i<l.length)=true:=decide_eq_true km;refine⟨.fq a ver i 0,fun L=>⟨?_,?_⟩⟩
 . simp only[iz,a8,cond_true,bY a7 L,beq_self_eq_true,kU,aa,eu,ee,cH,decide_true,eQ,cond_true]
 . simp only[g4,bY a7 L,beq_self_eq_true,cond_true,gX,hi,lY]
   rfl
theorem gi.app{M L:Mem}{x:V}{l:List Path}(h:gi M x l)(cV:cq (M.length+L.length) L=true):gi (M++L) x l:=by
 refine⟨fun K=>by rw[en];exact h.len _,fun i p hi=>?_,?_,?_⟩
 . obtain⟨a,a9⟩:=h.at_ i p hi
   exact⟨a,fun K=>by rw[en];exact a9 _⟩
 . rw[dz];exact wt (by omega) _ h.wo
 . rw[nN,dz,nO (Nat.le_add_right _ _) M h.own,cV];rfl
def lx(l:List Path):Prop:=∀(i j:Nat)(p q:Path),i<j->l[i]? =some p->l[j]? =some q->0<=o5 q p
abbrev iH:V:=.dF DT []
theorem yq{M:Mem}{x:V}{l:List Path}{i j:Nat}(lS:V)(H:gi M x l)(ak:lx l)(jW:i<j)(ap:j<l.length):
 b9 au Ai [x,.int .i64 i,.int .i64 j,lS,iH] M (fun v ah=>v=.tuple [.int .i64 i,.int .i64 j]/\ah=M):=by
 obtain⟨p,ay⟩:∃p,l[i]? =some p:=⟨l[i]'(by omega),by simp⟩;obtain⟨q,aG⟩:∃q,l[j]? =some q:=⟨l[j],by simp⟩;obtain⟨a,a9⟩:=H.at_ i p ay;obtain⟨b,aj⟩:=H.at_ j q aG;have a9:=a9 [];have aj:=aj [];simp only[fA] at a9 aj;have ar:=ak i j p q jW ay aG;refine bP aGl (by simp[G1]) ?_;simp-implicitDefEqProofs (disch:=omega) only[go_sem,G1,a9.1,a9.2,aj.1,aj.2];first|refine b1 (o6 q p) ?_|refine bV (o6 q p) ?_
 simp-implicitDefEqProofs (disch:=omega) only[go_sem];refine a5 (fun g=>absurd g (by omega)) (fun _=>?_);simp-implicitDefEqProofs (disch:=omega) only[go_sem];rw[gB];exact⟨H.own,rfl⟩
theorem yg{M:Mem}{x:V}{l:List Path}{i j k:Nat}(lS:V)(H:gi M x l)(ak:lx l)(jW:i<j)(vt:j<k)(ao:k<l.length):
 b9 au D7 [x,.int .i64 i,.int .i64 j,.int .i64 k,lS,iH] M (fun v ah=>v=.int .i64 j/\ah=M):=by
 have dy:M.take M.length=M:=gB;refine bP aGj (by simp[GZ]) ?_;simp-implicitDefEqProofs (disch:=omega) only[go_sem,GZ];refine ho (yq lS H ak jW (by omega)) ?_;simp-implicitDefEqProofs (disch:=omega) only[go_sem];refine ho (yq lS H ak vt ao) ?_;simp-implicitDefEqProofs (disch:=omega) only[go_sem];refine ho (yq lS H ak jW (by omega)) ?_;simp-implicitDefEqProofs (disch:=omega) only[go_sem,dy,H.own]
theorem yf{M:Mem}{x:V}{l:List Path}{j:Nat}(lS:V)(H:gi M x l)(ak:lx l)(a8:0<j)(ao:j+1<l.length)(ag:l.length<=4096):
 b9 au Ag [x,.int .i64 j,lS,iH] M (fun v ah=>v=.int .i64 j/\ah=M):=by
 have dy:M.take M.length=M:=gB;have a4:IntKind.i64.wrap ((j:Int) -1)=((j -1:Nat):Int):=by rw[jG];omega
 have bd:IntKind.i64.wrap ((j:Int)+1)=((j+1:Nat):Int):=by rw[jG];omega
 refine bP aGh (by simp[GX]) ?_;simp-implicitDefEqProofs (disch:=omega) only[go_sem,GX,a4,bd];refine ho (yg lS H ak (by omega) (by omega) ao) ?_;simp-implicitDefEqProofs (disch:=omega) only[go_sem,dy,H.own]
theorem WI(n:Nat)(aK:n<=1000000000):dN .quo .none (.int .i64 (n:Int)) (.int .i64 4)=some (.int .i64 ((n/4:Nat):Int)):=by
 rw[Lw _ _ _ _ (by omega)];have:Int.tdiv (n:Int) 4=((n/4:Nat):Int):=rfl;rw[this,n1 _ (by omega) (by omega)]
theorem LJ{M:Mem}{x:V}{l:List Path}(H:gi M x l)(ak:lx l)(ag:l.length<=4096)(aK:12<l.length):
 b9 au Jn [x,.int .i64 0,.int .i64 l.length,iH] M (fun v ah=>v=.tuple [.int .i64 ((l.length/4*2:Nat):Int),.int .i64 1]/\ah=M):=by
 have dy:∀L:Mem,(M++L).take M.length=M:=fun L=>jP rfl L;have le:∀L:Mem,decide (M.length<=M.length+L.length)=true:=fun L=>decide_eq_true (by omega);have q:=WI l.length (by omega);have eS:=fun L=>eT M L;have h2:IntKind.i64.wrap (((l.length/4:Nat):Int)*1)=((l.length/4*1:Nat):Int):=by rw[jG];omega
 have jb:IntKind.i64.wrap (((l.length/4:Nat):Int)*2)=((l.length/4*2:Nat):Int):=by rw[jG];omega
 have mK:IntKind.i64.wrap (((l.length/4:Nat):Int)*3)=((l.length/4*3:Nat):Int):=by rw[jG];omega
 have H1:gi (M++[.box [.int .i64 0]]) x l:=H.app (by simp[cq,a1.under,cT,V.under]);refine bP aGd (by simp[GS]) ?_;simp-implicitDefEqProofs (disch:=omega) only[go_sem,GS,q,h2,jb,mK,Int.sub_zero,Int.zero_add];refine a5 (fun _=>?_) (fun g=>absurd g (by omega));simp-implicitDefEqProofs (disch:=omega) only[go_sem];refine a5 (fun g=>?_) (fun g=>?_)
 . simp-implicitDefEqProofs (disch:=omega) only[go_sem]
   refine ho (yf _ H1 ak (by omega) (by omega) ag) ?_;simp-implicitDefEqProofs (disch:=omega) only[go_sem];refine ho (yf _ H1 ak (by omega) (by omega) ag) ?_;simp-implicitDefEqProofs (disch:=omega) only[go_sem];refine ho (yf _ H1 ak (by omega) (by omega) ag) ?_;simp-implicitDefEqProofs (disch:=omega) only[go_sem];refine ho (yg _ H1 ak (by omega) (by omega) (by omega)) ?_;simp-implicitDefEqProofs (disch:=omega) only[go_sem,eS,dy,H.own]
 simp-implicitDefEqProofs (disch:=omega) only[go_sem];refine ho (yg _ H1 ak (by omega) (by omega) (by omega)) ?_;simp-implicitDefEqProofs (disch:=omega) only[go_sem,eS,dy,H.own]
theorem Ou{M:Mem}{x:V}{l:List Path}(H:gi M x l)(ak:lx l)(ag:l.length<=4096)(aK:1<l.length):
 b9 au Jr [x,.int .i64 0,.int .i64 l.length,iH] M (fun v ah=>v=.bool true/\ah=M):=by
 have dy:M.take M.length=M:=gB;refine bP aGn (by simp[G3]) ?_;simp-implicitDefEqProofs (disch:=omega) only[go_sem,G3,Int.zero_add];refine lT (fun _ vs N=>N=M/\vs=[x,.int .i64 0,.int .i64 l.length,iH,.int .i64 1,.int .i64 0]) 0 ⟨rfl,rfl⟩ ?_;rintro _ vs N ⟨rfl,rfl⟩;simp-implicitDefEqProofs (disch:=omega) only[go_sem];refine lT (fun m vs du=>du=N/\∃i:Nat,1<=i/\i<=l.length/\m=l.length -i/\vs=[x,.int .i64 0,.int .i64 l.length,iH,.int .i64 i,.int .i64 0]) (l.length -1) ⟨rfl,1,by omega,by omega,rfl,rfl⟩ ?_;rintro m vs du ⟨rfl,i,aa,af,rfl,rfl⟩;simp-implicitDefEqProofs (disch:=omega) only[go_sem];refine a5 (fun g=>?_) (fun g=>?_)
 . have a4:IntKind.i64.wrap ((i:Int) -1)=((i -1:Nat):Int):=by rw[jG];omega
   have bd:IntKind.i64.wrap ((i:Int)+1)=((i+1:Nat):Int):=by rw[jG];omega
   obtain⟨p,ay⟩:∃p,l[i -1]? =some p:=⟨l[i -1]'(by omega),by simp⟩;obtain⟨q,aG⟩:∃q,l[i]? =some q:=⟨l[i]'(by omega),by simp⟩;obtain⟨a,a9⟩:=H.at_ _ p ay;obtain⟨b,aj⟩:=H.at_ _ q aG;have a9:=a9 [];have aj:=aj [];simp only[fA] at a9 aj;have ar:=ak (i -1) i p q (by omega) ay aG;simp-implicitDefEqProofs (disch:=omega) only[go_sem,a4,a9.1,a9.2,aj.1,aj.2];first|refine b1 (o6 q p) ?_|refine bV (o6 q p) ?_
   simp-implicitDefEqProofs (disch:=omega) only[go_sem];refine a5 (fun g=>absurd g (by omega)) (fun _=>?_);simp-implicitDefEqProofs (disch:=omega) only[go_sem,bd];exact uB (l.length -(i+1)) (by omega) ⟨rfl,i+1,by omega,by omega,rfl,rfl⟩
 . have hi:i=l.length:=by omega
   subst hi;simp-implicitDefEqProofs (disch:=omega) only[go_sem];rw[dy];exact⟨H.own,rfl⟩
theorem NP{M:Mem}{x:V}{l:List Path}(H:gi M x l)(ak:lx l)(ag:l.length<=4096):
 b9 au Jp [x,.int .i64 0,.int .i64 l.length,iH] M (fun v ah=>v=.tuple []/\ah=M):=by
 have dy:M.take M.length=M:=gB;refine bP aGf (by simp[GV]) ?_;simp-implicitDefEqProofs (disch:=omega) only[go_sem,GV,Int.zero_add];refine lT (fun m vs du=>du=M/\∃i:Nat,1<=i/\(i<=l.length∨i=1)/\m=l.length -i/\vs=[x,.int .i64 0,.int .i64 l.length,iH,.int .i64 i]) (l.length -1) ⟨rfl,1,by omega,by omega,rfl,rfl⟩ ?_;rintro m vs du ⟨rfl,i,aa,af,rfl,rfl⟩;simp-implicitDefEqProofs (disch:=omega) only[go_sem];refine a5 (fun g=>?_) (fun g=>?_)
 . have a4:IntKind.i64.wrap ((i:Int) -1)=((i -1:Nat):Int):=by rw[jG];omega
   have bd:IntKind.i64.wrap ((i:Int)+1)=((i+1:Nat):Int):=by rw[jG];omega
   obtain⟨p,ay⟩:∃p,l[i -1]? =some p:=⟨l[i -1]'(by omega),by simp⟩;obtain⟨q,aG⟩:∃q,l[i]? =some q:=⟨l[i]'(by omega),by simp⟩;obtain⟨a,a9⟩:=H.at_ _ p ay;obtain⟨b,aj⟩:=H.at_ _ q aG;have a9:=a9 [];have aj:=aj [];simp only[fA] at a9 aj;have ar:=ak (i -1) i p q (by omega) ay aG;simp-implicitDefEqProofs (disch:=omega) only[go_sem];refine lT (fun _ vs N=>N=du/\vs=[x,.int .i64 0,.int .i64 l.length,iH,.int .i64 i,.int .i64 i]) 0 ⟨rfl,rfl⟩ ?_;rintro _ vs N ⟨rfl,rfl⟩;simp-implicitDefEqProofs (disch:=omega) only[go_sem];refine a5 (fun _=>?_) (fun g=>absurd g (by omega));simp-implicitDefEqProofs (disch:=omega) only[go_sem,a4,a9.1,a9.2,aj.1,aj.2];first|refine b1 (o6 q p) ?_|refine bV (o6 q p) ?_
   simp-implicitDefEqProofs (disch:=omega) only[go_sem];refine a5 (fun g=>absurd g (by omega)) (fun _=>?_);simp-implicitDefEqProofs (disch:=omega) only[go_sem,bd];exact uB (l.length -(i+1)) (by omega) ⟨rfl,i+1,by omega,by omega,rfl,rfl⟩
 . simp-implicitDefEqProofs (disch:=omega) only[go_sem]
   rw[dy];exact⟨H.own,rfl⟩
theorem Ov{M:Mem}{x:V}{l:List Path}(x6:Int)(H:gi M x l)(ak:lx l)(ag:l.length<=4096)(Nj:12<l.length->x6≠0):
 b9 au Ak [x,.int .i64 0,.int .i64 l.length,.int .i64 x6,iH] M (fun v ah=>v=.tuple []/\ah=M):=by
 have dy:M.take M.length=M:=gB;refine bP aGp (by simp[G5]) ?_;simp-implicitDefEqProofs (disch:=omega) only[go_sem,G5];refine lT (fun _ vs N=>N=M/\vs=[x,.int .i64 0,.int .i64 l.length,.int .i64 x6,iH,.bool true,.bool true]) 0 ⟨rfl,rfl⟩ ?_;rintro _ vs N ⟨rfl,rfl⟩;simp-implicitDefEqProofs (disch:=omega) only[go_sem,Int.sub_zero];refine a5 (fun g=>?_) (fun g=>?_)
 . simp-implicitDefEqProofs (disch:=omega) only[go_sem]
   refine ho (NP H ak ag) ?_;simp-implicitDefEqProofs (disch:=omega) only[go_sem,dy,H.own]
 simp-implicitDefEqProofs (disch:=omega) only[go_sem];refine a5 (fun a2=>absurd a2 (Nj (by omega))) (fun _=>?_);simp-implicitDefEqProofs (disch:=omega) only[go_sem];refine ho (LJ H ak ag (by omega)) ?_;have d1:decide ((1:Int)=2)=false:=rfl;have d2:decide ((1:Int)=1)=true:=rfl;simp-implicitDefEqProofs (disch:=omega) only[go_sem,d1];refine ho (Ou H ak ag (by omega)) ?_;simp-implicitDefEqProofs (disch:=omega) only[go_sem,dy,H.own]
theorem aQE(P:Program)(a b:a6)(Q:Exit->aI->Mem->Prop)(s:aI)(M:Mem):dn P (.cond (.const (.bool false)) a b) Q s M=dn P b Q s M:=by
 rw[aQy (t:=false) rfl];rfl
def JQ:List UInt8:=[0,1,2,2]++(f_ 4 3++(f_ 8 4++(f_ 16 5++(f_ 32 6++(f_ 64 7++f_ 128 8)))))
theorem aLA:∀n:Nat,n<256->(JQ[n]?.any fun b=>n==0||decide (0<b.toNat))=true:=by decide+kernel
theorem aLz(n:Nat)(aK:n<256):∃b:UInt8,JQ[n]? =some b/\(0<n->0<b.toNat):=by
 have h:=aLA n aK;cases aj:JQ[n]? with
 |none=>rw[aj] at h;cases h
 |some b=>
  rw[aj] at h;refine⟨b,rfl,fun a8=>?_⟩;have aa:(n==0)=false:=by simp;omega
  simp only[Option.any_some,aa,Bool.false_or] at h;exact of_decide_eq_true h
theorem aLt(n:Nat)(aK:n<256):bT au IM [.int .u64 n] (fun v=>∃k:Int,v=.int .i64 k/\(0<n->k≠0)):=by
 have a4:IntKind.u8.wrap (n:Int)=n:=by
  show(n:Int)%256=n;omega
 refine bP Tb (by simp[Ch]) ?_;simp-implicitDefEqProofs (disch:=omega) only[go_sem,Ch];refine a5 (fun g=>absurd g (by omega)) (fun _=>?_);simp-implicitDefEqProofs (disch:=omega) only[go_sem];refine a5 (fun g=>absurd g (by omega)) (fun _=>?_);simp-implicitDefEqProofs (disch:=omega) only[go_sem];refine a5 (fun g=>absurd g (by omega)) (fun _=>?_);simp-implicitDefEqProofs (disch:=omega) only[go_sem,a4];obtain⟨b,aj,qe⟩:=aLz n aK;have ry:=UInt8.toNat_lt b;change kZ (Option.map (fun b=>V.int .u8 (b.toNat:Int)) JQ[n]?) _;rw[aj];have bd:IntKind.i64.wrap (b.toNat:Int)=b.toNat:=by rw[jG];omega
 simp-implicitDefEqProofs (disch:=omega) only[go_sem,bd,Int.zero_add];exact⟨_,rfl,fun h=>by have:=qe h;omega⟩
theorem Vx(n:Nat)(aK:n<256):bT au DZ [.int .u64 n] (fun v=>∃k:Int,v=.int .i64 k/\(0<n->k≠0)):=by
 refine bP Tc (by simp[zv]) ?_;simp-implicitDefEqProofs (disch:=omega) only[go_sem,zv];first
  |(rw[aQE]
    simp-implicitDefEqProofs (disch:=omega) only[go_sem,zv])
  |skip
 refine fw (aLt n aK) ?_;rintro v ⟨k,rfl,ao⟩;simp-implicitDefEqProofs (disch:=omega) only[go_sem];exact⟨k,rfl,ao⟩
theorem Ld{M:Mem}{x:V}{l:List Path}(H:gi M x l)(ak:lx l)(ag:l.length<256):
 b9 au Jm [x,iH] M (fun v ah=>v=.tuple []/\ah=M):=by
 have dy:M.take M.length=M:=gB;have fY:=H.len [];rw[fA] at fY;have a4:IntKind.u64.wrap (l.length:Int)=l.length:=AW _ (by omega);refine bP aGb (by simp[GQ]) ?_;simp-implicitDefEqProofs (disch:=omega) only[go_sem,GQ,fY,a4];refine fw (Vx l.length ag) ?_;rintro v ⟨k,rfl,ao⟩;simp-implicitDefEqProofs (disch:=omega) only[go_sem];refine ho (Ov k H ak (by omega) fun _=>ao (by omega)) ?_;simp-implicitDefEqProofs (disch:=omega) only[go_sem,dy,H.own]
end Go.aL.C
namespace Go.aL.C
open Go.aL
theorem RN{l:List Path}{N s:Nat}{cr:Bool}{W:Nat->Nat->Int}{E:List Edge}{qZ:List dp}(ez:oX l N cr W)(i2:KX l cr E)(d4:yY E N s qZ)(ak:s<N)(eN:∀p∈l,p.j2 N){k:Nat}(ao:k<N)(cD:k≠s):
 ∃x,qZ[k]? =some x/\(x.len=W s k∨(x.len=-1/\W s k=eH)):=by
 have aj:eH=1099511627776:=rfl;obtain⟨x,ad⟩:∃x,qZ[k]? =some x:=⟨qZ[k]'(by rw[d4.len];exact ao),by simp⟩;refine⟨x,ad,?_⟩;let Kf:Nat->Int:=fun j=>match qZ[j]? with|some y=>if 0<=y.ec then y.len else eH|none=>eH
 have Ds:∀j y,qZ[j]? =some y->Kf j=if 0<=y.ec then y.len else eH:=fun j y aE=>by simp only[Kf,aE]
 have key:=ez.qK Kf (fun i _=>by
  cases aE:qZ[i]? with
  |none=>simp only[Kf,aE,aj];omega
  |some y=>
   rw[Ds i y aE];split
   . rcases d4.fin i y aE with h|h
     . omega
     . omega
   . omega) (fun p ay aD=>by
  obtain⟨e,he,aa,af,az⟩:=i2.has p ay aD;obtain⟨⟨bW,b8⟩,⟨cN,dl⟩,e2,fV⟩:=eN p ay;obtain⟨u,hu⟩:∃u,qZ[p.src.toNat]? =some u:=⟨qZ[p.src.toNat]'(by rw[d4.len];omega),by simp⟩;obtain⟨w,hw⟩:∃w,qZ[p.dst.toNat]? =some w:=⟨qZ[p.dst.toNat]'(by rw[d4.len];omega),by simp⟩;rw[Ds _ _ hu,Ds _ _ hw];have Vd:=d4.fin _ _ hw;by_cases mD:0<=u.ec
  . obtain⟨y,aE,bh,bC⟩:=d4.rel e he u (by rw[aa];exact hu) mD
    rw[af,hw] at aE;cases aE;rw[if_pos mD,if_pos bh];omega
  . rw[if_neg mD]
    split<;>omega) s k ak ao;obtain⟨z,a_,vK,t_⟩:=d4.src;rw[Ds k x ad,Ds s z a_,if_pos vK,t_] at key;have HH:=ez.kA s k ak ao;by_cases aD:0<=x.ec
 . rw[if_pos aD] at key
   have aRD:=d4.low W ⟨fun e he=>by
    obtain⟨p,ay,aIk,aa,af,az⟩:=i2.of e he;rw[aa,af,az];exact ez.rm p ay aIk,ez.wm⟩ k x ad aD cD;left;omega
 . rw[if_neg aD] at key
   right;rcases d4.fin k x ad with h|h<;>omega
theorem RQ{l:List Path}{N:Nat}{W F:Nat->Nat->Int}(ez:oX l N false W)(bN:oX l N true F)(eN:∀p∈l,p.j2 N){i k:Nat}(hi:i<N)(ao:k<N)(cD:k≠i):W i k<=F i k:=by
 have aj:eH=1099511627776:=rfl;have key:=bN.qK (fun j=>if j=i then 0 else W i j) (fun j ap=>by
  show 0<=(if j=i then(0:Int) else W i j)/\(if j=i then(0:Int) else W i j)<=eH;have:=ez.kA i j hi ap;split<;>omega) (fun p ay _=>by
  obtain⟨⟨bW,b8⟩,⟨cN,dl⟩,e2,fV⟩:=eN p ay;have aa:=ez.rm p ay (fun q=>by cases q);have af:=ez.wm i p.dst.toNat p.src.toNat hi (by omega) (by omega);show(if p.dst.toNat=i then(0:Int) else W i p.dst.toNat)<=(if p.src.toNat=i then(0:Int) else W i p.src.toNat)+p.dL;have az:=ez.kA i p.src.toNat hi (by omega);by_cases ak:p.src.toNat=i
  . rw[ak] at aa
    rw[if_pos ak];split<;>omega
  . rw[if_neg ak]
    split<;>omega) i k hi ao;simp only[if_neg cD,if_pos] at key;omega
def so(a b:Nat)(n:Int)(f:Bool):List Path:=if 0<n/\n<=14400 then[⟨a,b,n,f⟩] else[]
theorem aC3{W F:Nat->Nat->Int}{i k:Nat}{n f:Int}(cD:i≠k)(a8:0<W i k)(T6:W i k<=F i k)(aK:n=W i k∨(n=-1/\W i k=eH))(aD:f=F i k∨(f=-1/\F i k=eH)):
 k4 W F i k=so i k n (decide (f=n))++if f=n then[] else so i k f true:=by
 have aj:eH=1099511627776:=rfl;unfold k4 so;by_cases hw:14400<W i k
 . rw[if_pos (.inr hw),if_neg (by omega)]
   split
   . rfl
   . rw[if_neg (by omega)];rfl
 have xF:n=W i k:=by omega
 subst xF;rw[if_neg (show¬(i=k∨14400<W i k) by omega),if_pos (show 0<W i k/\W i k<=14400 by omega)];by_cases HO:f=W i k
 . have bN:F i k=W i k:=by omega
   rw[if_pos HO,if_neg (by omega),bN,HO];simp
 . rw[if_neg HO]
   have aa:decide (F i k=W i k)=decide (f=W i k):=by
    rw[decide_eq_false HO];exact decide_eq_false (by omega)
   rw[aa];by_cases bN:F i k<=14400
   . have:f=F i k:=by omega
     subst this;rw[if_pos (by omega),if_pos (by omega)];rfl
   . rw[if_neg (by omega),if_neg (by omega)];rfl
theorem aDr{p q:Path}(h:p.src<q.src):0<=o5 q p:=by
 unfold o5;have:fM q.src p.src=1:=by unfold fM;rw[if_neg (by omega),if_pos h]
 rw[this];simp[pK]
theorem aDp{p q:Path}(a8:p.src=q.src)(h:p.dst<q.dst):0<=o5 q p:=by
 unfold o5;have aa:fM q.src p.src=0:=by unfold fM;rw[if_neg (by omega),if_neg (by omega)]
 have:fM q.dst p.dst=1:=by unfold fM;rw[if_neg (by omega),if_pos h]
 rw[this,aa];simp[pK]
theorem aDq{p q:Path}(a8:p.src=q.src)(af:p.dst=q.dst)(h:p.dL<=q.dL):0<=o5 q p:=by
 unfold o5;have aa:fM q.src p.src=0:=by unfold fM;rw[if_neg (by omega),if_neg (by omega)]
 have az:fM q.dst p.dst=0:=by unfold fM;rw[if_neg (by omega),if_neg (by omega)]
 have:0<=fM q.dL p.dL:=by unfold fM;rw[if_neg (by omega)];split<;>omega
 rw[aa,az];simp only[pK,if_pos];split<;>omega
theorem FC{W F:Nat->Nat->Int}{i k:Nat}{p:Path}(h:p∈k4 W F i k):p.src=i/\p.dst=k:=by
 unfold k4 at h;split at h
 . cases h
 . rcases jt.1 h with h|h
   . subst h;exact⟨rfl,rfl⟩
   . split at h
     . rw[gZ] at h;subst h;exact⟨rfl,rfl⟩
     . cases h
theorem aDk(W F:Nat->Nat->Int)(N:Nat):lx (gt W F N N):=by
 have aJQ:(gt W F N N).Pairwise (fun p q=>0<=o5 q p):=by
  unfold gt;rw[List.pairwise_flatMap];refine⟨fun i _=>?_,?_⟩
  . unfold lb
    rw[List.pairwise_flatMap];refine⟨fun k _=>?_,?_⟩
    . unfold k4
      split
      . exact .nil
      . split
        . rename_i h
          refine .cons (fun q aG=>?_) (.cons (fun q aG=>by cases aG) .nil);rw[gZ] at aG;subst aG;exact aDq rfl rfl (Int.le_of_lt h.1)
        . exact .cons (fun q aG=>by cases aG) .nil
    . refine List.Pairwise.imp ?_ List.pairwise_lt_range
      intro a b zC p ay q aG;obtain⟨aa,af⟩:=FC ay;obtain⟨az,bh⟩:=FC aG;exact aDp (by rw[aa,az]) (by rw[af,bh];omega)
  . refine List.Pairwise.imp ?_ List.pairwise_lt_range
    intro a b zC p ay q aG;unfold lb at ay aG;obtain⟨_,_,ay⟩:=List.mem_flatMap.1 ay;obtain⟨_,_,aG⟩:=List.mem_flatMap.1 aG;exact aDr (by rw[(FC ay).1,(FC aG).1];omega)
 intro i j p q jW ay aG;obtain⟨hi,ay⟩:=bo.1 ay;obtain⟨ap,aG⟩:=bo.1 aG;have:=List.pairwise_iff_getElem.1 aJQ i j hi ap jW;rw[ay,aG] at this;exact this
end Go.aL.C
namespace Go.aL.C
open Go.aL
def mX(l:List Path)(ver:Nat):Mem:=match l with
 |[]=>[.box [.slice [] .nil]]
 |p::r=>[.box [.aZ 1 ver 0 (p::r).length],.arr 4 ((p::r).map Path.row) ver 0]
def zg(l:List Path)(ver:Nat):V:=match l with
 |[]=>.slice [] .nil
 |p::r=>.aZ 1 ver 0 (p::r).length
theorem LL(l:List Path)(ver:Nat)(L:Mem):(mX l ver++L)[0]? =some (.box [zg l ver]):=by cases l<;>rfl
theorem aDj(l:List Path)(ver:Nat)(a b:Nat)(n:Int)(f:Bool)(ag:l.length<=100000):∃lk du,dX false 4 32 (zg l ver) (.slice [[.int .i64 a,.int .i64 b,.int .i64 n,.bool f]] .full) (mX l ver)=some (.aZ 1 lk 0 (l.length+1),du)/\
 du.set 0 (.box [.aZ 1 lk 0 (l.length+1)])=mX (l++[⟨a,b,n,f⟩]) lk/\du[0]? =some (.box [zg l ver]):=by
 cases l with
 |nil=>exact⟨0,[.box [.slice [] .nil],.arr 4 ([(⟨a,b,n,f⟩:Path)].map Path.row) 0 0],by simp[zg,mX,dX,eK,g0,fr,Path.row],rfl,rfl⟩
 |cons q l=>
  have af:decide ((l.length+1+1)*64<=2^48)=true:=decide_eq_true (by simp only[dC] at ag;omega);refine⟨ver+1,[.box [.aZ 1 ver 0 (l.length+1)],.arr 4 ((q::l++[(⟨a,b,n,f⟩:Path)]).map Path.row) (ver+1) 0],?_,by simp[mX],rfl⟩;simp only[zg,mX,dX,eK,fr,dC,gY,ee,beq_self_eq_true,cond_true,g0,List.getElem?_cons_succ,ji,eu,eQ,Nat.reduceMul,af,List.set_cons_succ,List.set_cons_zero,List.cons_append,hY,List.map_append,lq,Path.row]
theorem Qk(l:List Path)(ver:Nat)(a b:Nat)(n:Int)(f:Bool)(ag:l.length<=100000):
 b9 au z4 [.int .i64 a,.int .i64 b,.int .i64 n,.bool f,.ptr 0 0] (mX l ver) (fun v ah=>v=.tuple []/\∃lk,ah=mX (l++so a b n f) lk):=by
 obtain⟨lk,du,aa,af,az⟩:=aDj l ver a b n f ag;have a8:=LL l ver [];rw[fA] at a8;refine hl aFB (by simp[Gm]) ?_;simp only[hg];simp-implicitDefEqProofs (disch:=omega) only[go_sem,Gm];refine a5 (fun aT=>?_) (fun aT=>?_);rotate_left
 . simp-implicitDefEqProofs (disch:=omega) only[go_sem]
   exact⟨ver,by rw[so,if_neg (by omega),fA]⟩
 simp-implicitDefEqProofs (disch:=omega) only[go_sem];refine a5 (fun a2=>?_) (fun a2=>?_);rotate_left
 . simp-implicitDefEqProofs (disch:=omega) only[go_sem]
   exact⟨ver,by rw[so,if_neg (by omega),fA]⟩
 simp-implicitDefEqProofs (disch:=omega) only[go_sem,a8,aa,af,az];exact⟨lk,by rw[so,if_pos ⟨aT,a2⟩]⟩
theorem Rv(l:List Path)(ver:Nat):cq (mX l ver).length (mX l ver)=true:=by cases l<;>simp[mX,cq,a1.under,cT,V.under]
theorem aDi(l:List Path)(ver:Nat):gi (mX l ver) (zg l ver) l:=by
 cases l with
 |nil=>exact OY (Rv [] ver)
 |cons p r=>exact OX (a:=1) (Rv (p::r) ver) rfl
theorem aDo(l:List Path)(c:c4)(N:Nat)(W G:Nat->Nat->Int)(dc:N<=64)(eN:∀p∈l,p.j2 N)(hlen:l.length<=4096)(ez:oX l N false W)(gk:oX l N true G)(dg:(gt W G N N).length<256):
 bT au IA [.slice (l.map Path.row) c,.int .i64 N] (fun v=>∃cK,v=.slice ((gt W G N N).map Path.row) cK):=by
 refine bP aFD (by simp[Gl]) ?_;simp-implicitDefEqProofs (disch:=omega) only[go_sem,Gl];refine fw (RR l c N false dc eN hlen) ?_;rintro v ⟨D,rfl,E,i2,d4⟩;simp-implicitDefEqProofs (disch:=omega) only[go_sem];refine fw (RR l c N true dc eN hlen) ?_;rintro v ⟨B,rfl,aQ3,aHb,bU⟩;simp-implicitDefEqProofs (disch:=omega) only[go_sem,u5,List.length_range];refine ge N (fun i vs M=>∃ver,vs=[u5 N D,u5 N B,.ptr 0 0,.fn z4 [.ptr 0 0],.int .i64 N,.int .i64 i]/\M=mX (gt W G N i) ver) ⟨0,rfl,rfl⟩ ?_ ?_;rotate_left
 . rintro vs M ⟨ver,rfl,rfl⟩
   have ci:=0;have a8:=fun L=>LL (gt W G N N) ver L;have aa:=LL (gt W G N N) ver [];rw[fA] at aa;simp-implicitDefEqProofs (disch:=omega) only[go_sem,db,aa];refine ho (Ld (aDi _ ver) (aDk W G N) dg) ?_;simp-implicitDefEqProofs (disch:=omega) only[go_sem];clear ci a8 aa dg;rw[aDV];generalize gt W G N N=L;cases L with
   |nil=>exact⟨rfl,⟨_,rfl⟩,rfl,rfl⟩
   |cons p r=>
    show kZ (eY (mX (p::r) ver) 0 20 (.aZ 1 ver 0 (p::r).length)) _;have aD:=zx (M:=mX (p::r) ver) (base:=0) (n:=19) (id:=1) (ver:=ver) (start:=0) (len:=(p::r).length) (rows:=(p::r).map Path.row) (sz:=4) (fz:=0) rfl rfl (by simp);rw[lW,g_ (by simp)] at aD;rw[aD];exact⟨rfl,⟨_,rfl⟩,rfl,rfl⟩
 rintro i vs M hi aw ⟨ver,rfl,rfl⟩;have ci:=Rw W G N i dc;have li:=fun k=>JR W G i k;have an:(c5 N)[i]? =some i:=by simp[hi]
 have TZ:=(d4 i hi).len;have aRj:=(bU i hi).len;simp-implicitDefEqProofs (disch:=omega) only[go_sem,aw,u5,an,kJ,TZ];refine ge N (fun k vs M=>∃ver,vs=[u5 N D,u5 N B,.ptr 0 0,.fn z4 [.ptr 0 0],.int .i64 i,.int .i64 N,.int .i64 i,kJ (D i),.int .i64 N,.int .i64 k]/\M=mX (gt W G N i++lb W G i k) ver) ⟨ver,?_,?_⟩ ?_ ?_
 . rfl
 . simp[lb]
 rotate_left
 . rintro vs M ⟨ver,rfl,rfl⟩
   simp-implicitDefEqProofs (disch:=omega) only[go_sem,db];refine cS hi ⟨ver,rfl,?_⟩;rw[LM]
 rintro k vs M ao fi ⟨ver,rfl,rfl⟩;have cm:=JR W G i k;by_cases i6:k=i
 . subst i6
   obtain⟨x,ad⟩:∃x,(D k)[k]? =some x:=⟨(D k)[k]'(by rw[TZ];exact ao),by simp⟩;simp-implicitDefEqProofs (disch:=omega) only[go_sem,fi,ad,kJ];refine cS ao ⟨ver,rfl,?_⟩;have ar:k4 W G k k=[]:=by unfold k4;rw[if_pos (.inl rfl)]
   rw[pG,ar,fA]
 obtain⟨x,ad,H7⟩:=RN ez i2 (d4 i hi) hi eN ao i6;obtain⟨y,aE,aKz⟩:=RN gk aHb (bU i hi) hi eN ao i6;have hle:=RQ ez gk eN hi ao i6;have dO:=aC3 (W:=W) (F:=G) (n:=x.len) (f:=y.len) (gq i6) (ez.kA i k hi ao).1 hle H7 aKz;simp-implicitDefEqProofs (disch:=omega) only[go_sem,fi,ad,kJ];refine a5 (fun h=>absurd (by omega) i6) (fun _=>?_);simp-implicitDefEqProofs (disch:=omega) only[go_sem,an,u5,aE,kJ];refine ew (Qk (gt W G N i++lb W G i k) ver i k x.len (decide (y.len=x.len)) (by rw[dz];omega)) ?_;rintro v ah ⟨rfl,iQ,rfl⟩;simp-implicitDefEqProofs (disch:=omega) only[go_sem];refine a5 (fun g=>?_) (fun g=>?_)
 . simp-implicitDefEqProofs (disch:=omega) only[go_sem]
   refine cS ao ⟨iQ,rfl,?_⟩;rw[if_pos g,fA] at dO;rw[pG,dO,en]
 simp-implicitDefEqProofs (disch:=omega) only[go_sem];have Qm:(so i k x.len (decide (y.len=x.len))).length<=1:=by unfold so;split<;>simp
 refine ew (Qk (gt W G N i++lb W G i k++so i k x.len (decide (y.len=x.len))) iQ i k y.len true (by rw[dz,dz];omega)) ?_;rintro v ah ⟨rfl,aQg,rfl⟩;simp-implicitDefEqProofs (disch:=omega) only[go_sem];refine cS ao ⟨aQg,rfl,?_⟩;rw[if_neg g] at dO;rw[pG,dO,en,en]
end Go.aL.C
namespace Go.aL.C
open Go.aL
def KG(k:Int×Int×Bool):V:=.agg [.int .i64 k.1,.int .i64 k.2.1,.bool k.2.2]
theorem XV:kd (.cells [.int,.int,.bool]) KG:=⟨fun _=>rfl,fun x y=>by
 obtain⟨a,b,c⟩:=x;obtain⟨d,e,f⟩:=y;simp[KG,h1,gG,hE,Bool.decide_and]⟩
def Kl(k:Int×Int×Bool):V:=.agg [.int .i64 k.1,.int .i64 k.2.1,.int .i64 0,.bool k.2.2]
theorem WH:kd (.cells [.int,.int,.int,.bool]) Kl:=⟨fun _=>rfl,fun x y=>by
 obtain⟨a,b,c⟩:=x;obtain⟨d,e,f⟩:=y;simp[Kl,h1,gG,hE,Bool.decide_and]⟩
def Path.key(p:Path):Int×Int×Bool:=(p.src,p.dst,p.free)
theorem Ws{l:List Path}{N i:Nat}{p:Path}(h:K9 l N i p)(ay:l[i]? =some p):p.key∉(l.take i).map Path.key:=
 Eb fun k o ao aA he=>h.2.2 k o ao aA ⟨congrArg (·.1) he,congrArg (·.2.1) he,congrArg (·.2.2) he⟩
theorem Xi(l:List Path)(c:c4)(N:Nat)(hlen:l.length<256)(ak:q7 l N):bT au IB [.slice (l.map Path.row) c,.int .i64 N] (fun v=>v=j5 (0,0)):=by
 refine bP aFF (by simp[Gq]) ?_;simp-implicitDefEqProofs (disch:=omega) only[go_sem,Gq];refine ej l (fun i vs M=>vs=[.int .i64 N,.map 0,.slice (l.map Path.row) c,.int .i64 l.length,.int .i64 i]/\M=[.map (cI KG (je ((l.take i).map Path.key)))]) ⟨rfl,rfl⟩ ?_ ?_;rotate_left
 . rintro vs M ⟨rfl,rfl⟩
   simp-implicitDefEqProofs (disch:=omega) only[go_sem,db,j5]
 rintro i p vs M ay hi aw ⟨rfl,rfl⟩;have m0:=ak i p ay;obtain⟨⟨⟨bW,b8⟩,⟨cN,dl⟩,e2,fV⟩,cD,_⟩:=m0;have mF:=Ws (ak i p ay) ay;have a4:=x8 XV mF;have bd:=yL XV mF;rw[AR ay] at bd;simp only[KG,Path.key] at a4 bd;simp-implicitDefEqProofs (disch:=omega) only[go_sem,aw,ay,Path.row];refine a5 (fun h=>absurd h (by omega)) (fun _=>?_);simp-implicitDefEqProofs (disch:=omega) only[go_sem];refine a5 (fun h=>absurd h (by omega)) (fun _=>?_);simp-implicitDefEqProofs (disch:=omega) only[go_sem];refine a5 (fun h=>absurd h (by omega)) (fun _=>?_);simp-implicitDefEqProofs (disch:=omega) only[go_sem];refine a5 (fun h=>absurd h (by omega)) (fun _=>?_);simp-implicitDefEqProofs (disch:=omega) only[go_sem];refine a5 (fun h=>absurd h (by omega)) (fun _=>?_);refine a5 (fun h=>absurd h (by omega)) (fun _=>?_);simp-implicitDefEqProofs (disch:=omega) only[go_sem];refine a5 (fun h=>absurd h (by omega)) (fun _=>?_);simp-implicitDefEqProofs (disch:=omega) only[go_sem,a4,bd];exact dJ hi (by simp[hT,dr,aX,cT,V.under,cq,a1.under,wu]) ⟨rfl,rfl⟩
theorem PM(l:List Path)(c:c4)(N:Nat)(dc:N<=64)(hlen:l.length<256)(ak:q7 l N)(ar:uN l N):bT au Iz [.slice (l.map Path.row) c,.int .i64 N] (fun v=>v=.bool true):=by
 obtain⟨W,G,ez,gk,dg⟩:=ar;have eN:∀p∈l,p.j2 N:=fun p ay=>by
  obtain⟨k,ao⟩:=ir ay;exact(ak k p ao).1
 refine bP aFA (by simp[Gk]) ?_;simp-implicitDefEqProofs (disch:=omega) only[go_sem,Gk];refine a5 (fun h=>absurd h (by omega)) (fun _=>?_);simp-implicitDefEqProofs (disch:=omega) only[go_sem];first|refine b1 (Xi l c N hlen ak) ?_|refine bV (Xi l c N hlen ak) ?_
 simp-implicitDefEqProofs (disch:=omega) only[go_sem,j5];have jq:max (N:Int) 0=N:=by omega
 rw[jq];refine fw (aDo l c N W G dc eN (by omega) ez gk (by rw[<-dg];exact hlen)) ?_;rintro v ⟨cK,rfl⟩;rw[<-dg];simp-implicitDefEqProofs (disch:=omega) only[go_sem];refine ej l (fun i vs M=>vs=[.slice (l.map Path.row) c,.slice (l.map Path.row) cK,.int .i64 l.length,.int .i64 i]/\M=[]) ⟨rfl,rfl⟩ ?_ ?_;rotate_left
 . rintro vs M ⟨rfl,rfl⟩
   simp-implicitDefEqProofs (disch:=omega) only[go_sem,db]
 rintro i p vs M ay hi aw ⟨rfl,rfl⟩;simp-implicitDefEqProofs (disch:=omega) only[go_sem,aw,ay,Path.row];exact cS hi ⟨rfl,rfl⟩
theorem aDd(n:Net)(aK:n.wf)(dc:n.stops.length<=64)(hlen:n.paths.length<256)(ak:q7 n.paths n.stops.length)(ar:uN n.paths n.stops.length):bT au IQ [.agg n.row] (fun v=>v=.agg (gK 0 0 0)):=by
 refine bP aFQ (by simp[GA]) ?_;simp-implicitDefEqProofs (disch:=omega) only[go_sem,GA,Net.row];refine ej n.paths (fun i vs M=>vs=[.ptr 0 0,.ptr 1 0,.map 2,.slice (n.paths.map Path.row) n.qI,.int .i64 n.paths.length,.int .i64 i]/\M=[.box n.row,.box (gK 0 0 0),.map (cI Kl (je ((n.paths.take i).map Path.key)))]) ⟨rfl,rfl⟩ ?_ ?_;rotate_left
 . rintro vs M ⟨rfl,rfl⟩
   simp-implicitDefEqProofs (disch:=omega) only[go_sem,db,gK,Net.row];first|refine b1 (PM n.paths n.qI n.stops.length dc hlen ak ar) ?_|refine bV (PM n.paths n.qI n.stops.length dc hlen ak ar) ?_
   simp-implicitDefEqProofs (disch:=omega) only[go_sem,gK]
 rintro i p vs M ay hi aw ⟨rfl,rfl⟩;have m0:=ak i p ay;obtain⟨⟨⟨bW,b8⟩,⟨cN,dl⟩,e2,fV⟩,cD,_⟩:=m0;have mF:=Ws (ak i p ay) ay;have a4:=x8 WH mF;have bd:=yL WH mF;rw[AR ay] at bd;simp only[Kl,Path.key] at a4 bd;have gL:decide (0<=p.src/\p.src<(n.stops.length:Int))=true:=decide_eq_true ⟨bW,b8⟩;have kS:decide (0<=p.dst/\p.dst<(n.stops.length:Int))=true:=decide_eq_true ⟨cN,dl⟩;simp-implicitDefEqProofs (disch:=omega) only[go_sem,aw,ay,Path.row,Net.row];first|refine b1 (qG _ _) ?_|refine bV (qG _ _) ?_
 simp-implicitDefEqProofs (disch:=omega) only[go_sem,gL];first|refine b1 (qG _ _) ?_|refine bV (qG _ _) ?_
 simp-implicitDefEqProofs (disch:=omega) only[go_sem,kS];refine a5 (fun h=>absurd h cD) (fun _=>?_);simp-implicitDefEqProofs (disch:=omega) only[go_sem];refine a5 (fun h=>absurd h (by omega)) (fun _=>?_);simp-implicitDefEqProofs (disch:=omega) only[go_sem];refine a5 (fun h=>absurd h (by omega)) (fun _=>?_);simp-implicitDefEqProofs (disch:=omega) only[go_sem,a4];simp-implicitDefEqProofs (disch:=omega) only[go_sem,bd];exact dJ hi (by simp[hT,dr,aX,cT,V.under,cq,a1.under,wu,gK]) ⟨rfl,rfl⟩
end Go.aL.C
namespace Go.aL.C
open Go.aL
theorem So(l:List (Int×Int×Int))(c:c4)(ag:l.length<=10)(h:∀r∈l,r.2.2=0):bT au Aa [.slice (l.map fun r=>gK r.1 r.2.1 r.2.2) c] (fun v=>v=.agg (gK 0 0 0)):=
 bT.mono (aMR l c ag) fun v ⟨p,i,e,aq,cn⟩=>by
  obtain⟨aa,af,az⟩:=cn h;rw[aq,aa,af,az]
theorem Es(n:Net)(aK:n.wf)(ok:f4 n):bT au z_ [.agg n.row] (fun v=>v=.tuple [.int .i64 0,.int .i64 0,.int .i64 0]):=by
 have aa:=ok.ok;have ak:=ok.stops;have ay:=ok.paths;have ig:decide ((0:Int)=0)=true:=rfl;have f1:=So [(0,0,0),(1,0,0)] .full (by simp) (by simp);have f2:=So [(0,0,0),(5,0,0)] .full (by simp) (by simp);have iB:=aDe n aK aa.runs;have r2:=aDc n aK aa.ch;have Km:=aDd n aK (by omega) (by omega) aa.sound aa.closed;have Kn:=EB n.dD aK.dD;simp only[hY,lq,gK,Net.row,bp.row,aa.dD] at f1 f2 iB r2 Km Kn;refine bP aFN (by simp[Gx]) ?_;simp-implicitDefEqProofs (disch:=omega) only[go_sem,Gx,Net.row];first|refine b1 (Xs n.stops n.mN aK.stops.1 aa.stops) ?_|refine bV (Xs n.stops n.mN aK.stops.1 aa.stops) ?_
 simp-implicitDefEqProofs (disch:=omega) only[go_sem,j5];first|refine b1 (WX n.fP n.rc aK.fP.1 aa.fP) ?_|refine bV (WX n.fP n.rc aK.fP.1 aa.fP) ?_
 simp-implicitDefEqProofs (disch:=omega) only[go_sem,j5];first|refine b1 (AB 0 0 0) ?_|refine bV (AB 0 0 0) ?_
 simp-implicitDefEqProofs (disch:=omega) only[go_sem,gK];first|refine b1 (AB 1 0 0) ?_|refine bV (AB 1 0 0) ?_
 simp-implicitDefEqProofs (disch:=omega) only[go_sem,gK];first|refine b1 (f1) ?_|refine bV (f1) ?_
 simp-implicitDefEqProofs (disch:=omega) only[go_sem];first|refine b1 (iB) ?_|refine bV (iB) ?_
 simp-implicitDefEqProofs (disch:=omega) only[go_sem];first|refine b1 (r2) ?_|refine bV (r2) ?_
 simp-implicitDefEqProofs (disch:=omega) only[go_sem];first|refine b1 (Kn) ?_|refine bV (Kn) ?_
 simp-implicitDefEqProofs (disch:=omega) only[go_sem,j5];first|refine b1 (Km) ?_|refine bV (Km) ?_
 simp-implicitDefEqProofs (disch:=omega) only[go_sem];first|refine b1 (AB 5 0 0) ?_|refine bV (AB 5 0 0) ?_
 simp-implicitDefEqProofs (disch:=omega) only[go_sem,gK];first|refine b1 (f2) ?_|refine bV (f2) ?_
 simp-implicitDefEqProofs (disch:=omega) only[go_sem]
end Go.aL.C
namespace Go.aL.C
open Go.aL
def fH:Nat->c4
 |0=>.full
 |_+1=>.cx
theorem tq(sz bytes:Nat)(c:c4)(M:Mem):dX false sz bytes (.slice [] .full) (.slice [] c) M=some (.slice [] .full,M):=by
 simp[dX,eK,g0,fr]
theorem yA(sz:Nat)(M:Mem):hf sz (.slice [] .full) none (some (.int .i64 ((0:Nat):Int))) (some (.int .i64 ((0:Nat):Int))) M=some (.slice [] .full):=rfl
theorem wL{sz bytes:Nat}{r:List V}{rows:List (List V)}{c:c4}{M:Mem}(cn:r.length=sz)(aj:bytes<=1000)(ag:rows.length<100000):
 dX false sz bytes (.slice [] .full) (.slice (r::rows) c) M=some (.aZ M.length 0 0 (rows.length+1),M++[.arr sz (r::rows) 0 0]):=by
 have aa:(rows.length+1)*(2*bytes)<=100000*2000:=Nat.mul_le_mul (by omega) (by omega);have aw:decide ((rows.length+1)*(2*bytes)<=2^48)=true:=decide_eq_true (by omega);simp only[dX,eK,g0,fr,cn,beq_self_eq_true,cond_true,dC,gY,ee,aw,decide_true,Bool.or_true,eQ,List.nil_append]
theorem wi{sz id ver n:Nat}{rows:List (List V)}{fz:Nat}{M:Mem}(a7:M[id]? =some (.arr sz rows ver fz))(aK:rows.length=n):hf sz (.aZ id ver 0 n) none (some (.int .i64 n)) (some (.int .i64 n)) M=some (.aZ id ver 0 n):=by
 subst aK;have a8:decide (0<=(rows.length:Int))=true:=decide_eq_true (by omega);have aa:decide (0+rows.length<=rows.length)=true:=decide_eq_true (by omega);simp only[hf,a7,iG,a8,cond_true,kU,beq_self_eq_true,aa,fR,cH,decide_true,eQ,Nat.sub_zero,iT]
theorem aGT(l:List Stop)(c:c4)(ag:l.length<=100000):bT au IY [.slice (l.map Stop.row) c] (fun v=>v=.slice (l.map Stop.row) (fH l.length)):=by
 refine bP aFZ (by simp[Cp]) ?_;cases l with
 |nil=>
  have e:=fun b=>tq 4 b c [];simp only[lq];simp-implicitDefEqProofs (disch:=omega) only[go_sem,Cp,e,yA,fH]
 |cons x l=>
  have e:=fun b(aj:b<=1000)=>wL (sz:=4) (bytes:=b) (r:=x.row) (rows:=l.map Stop.row) (c:=c) (M:=[]) rfl aj (by rw[eu];simp only[dC] at ag;omega);have bd:=wi (sz:=4) (id:=0) (ver:=0) (n:=l.length+1) (rows:=x.row::l.map Stop.row) (fz:=0) (M:=[.arr 4 (x.row::l.map Stop.row) 0 0]) rfl (by simp);simp only[hY,dC,fH,eu,gY,List.nil_append] at e bd⊢;simp-implicitDefEqProofs (disch:=omega) only[go_sem,Cp,e,bd]
theorem aGS(l:List fo)(c:c4)(ag:l.length<=100000):bT au IW [.slice (l.map fo.row) c] (fun v=>v=.slice (l.map fo.row) (fH l.length)):=by
 refine bP aFX (by simp[Cn]) ?_;cases l with
 |nil=>
  have e:=fun b=>tq 3 b c [];simp only[lq];simp-implicitDefEqProofs (disch:=omega) only[go_sem,Cn,e,yA,fH]
 |cons x l=>
  have e:=fun b(aj:b<=1000)=>wL (sz:=3) (bytes:=b) (r:=x.row) (rows:=l.map fo.row) (c:=c) (M:=[]) rfl aj (by rw[eu];simp only[dC] at ag;omega);have bd:=wi (sz:=3) (id:=0) (ver:=0) (n:=l.length+1) (rows:=x.row::l.map fo.row) (fz:=0) (M:=[.arr 3 (x.row::l.map fo.row) 0 0]) rfl (by simp);simp only[hY,dC,fH,eu,gY,List.nil_append] at e bd⊢;simp-implicitDefEqProofs (disch:=omega) only[go_sem,Cn,e,bd]
theorem aGR(l:List dG)(c:c4)(ag:l.length<=100000):bT au IU [.slice (l.map dG.row) c] (fun v=>v=.slice (l.map dG.row) (fH l.length)):=by
 refine bP aFV (by simp[Cl]) ?_;cases l with
 |nil=>
  have e:=fun b=>tq 5 b c [];simp only[lq];simp-implicitDefEqProofs (disch:=omega) only[go_sem,Cl,e,yA,fH]
 |cons x l=>
  have e:=fun b(aj:b<=1000)=>wL (sz:=5) (bytes:=b) (r:=x.row) (rows:=l.map dG.row) (c:=c) (M:=[]) rfl aj (by rw[eu];simp only[dC] at ag;omega);have bd:=wi (sz:=5) (id:=0) (ver:=0) (n:=l.length+1) (rows:=x.row::l.map dG.row) (fz:=0) (M:=[.arr 5 (x.row::l.map dG.row) 0 0]) rfl (by simp);simp only[hY,dC,fH,eu,gY,List.nil_append] at e bd⊢;simp-implicitDefEqProofs (disch:=omega) only[go_sem,Cl,e,bd]
theorem aGQ(l:List Path)(c:c4)(ag:l.length<=100000):bT au IT [.slice (l.map Path.row) c] (fun v=>v=.slice (l.map Path.row) (fH l.length)):=by
 refine bP aFU (by simp[Ck]) ?_;cases l with
 |nil=>
  have e:=fun b=>tq 4 b c [];simp only[lq];simp-implicitDefEqProofs (disch:=omega) only[go_sem,Ck,e,yA,fH]
 |cons x l=>
  have e:=fun b(aj:b<=1000)=>wL (sz:=4) (bytes:=b) (r:=x.row) (rows:=l.map Path.row) (c:=c) (M:=[]) rfl aj (by rw[eu];simp only[dC] at ag;omega);have bd:=wi (sz:=4) (id:=0) (ver:=0) (n:=l.length+1) (rows:=x.row::l.map Path.row) (fz:=0) (M:=[.arr 4 (x.row::l.map Path.row) 0 0]) rfl (by simp);simp only[hY,dC,fH,eu,gY,List.nil_append] at e bd⊢;simp-implicitDefEqProofs (disch:=omega) only[go_sem,Ck,e,bd]
theorem aGP(l:List bG)(c:c4)(ag:l.length<=100000):bT au IS [.slice (l.map bG.row) c] (fun v=>v=.slice (l.map bG.row) (fH l.length)):=by
 refine bP aFT (by simp[Cj]) ?_;cases l with
 |nil=>
  have e:=fun b=>tq 5 b c [];simp only[lq];simp-implicitDefEqProofs (disch:=omega) only[go_sem,Cj,e,yA,fH]
 |cons x l=>
  have e:=fun b(aj:b<=1000)=>wL (sz:=5) (bytes:=b) (r:=x.row) (rows:=l.map bG.row) (c:=c) (M:=[]) rfl aj (by rw[eu];simp only[dC] at ag;omega);have bd:=wi (sz:=5) (id:=0) (ver:=0) (n:=l.length+1) (rows:=x.row::l.map bG.row) (fz:=0) (M:=[.arr 5 (x.row::l.map bG.row) 0 0]) rfl (by simp);simp only[hY,dC,fH,eu,gY,List.nil_append] at e bd⊢;simp-implicitDefEqProofs (disch:=omega) only[go_sem,Cj,e,bd]
theorem TK(l:List ds)(c:c4)(ag:l.length<=100000):bT au IV [.slice (l.map ds.row) c] (fun v=>v=.slice (l.map ds.row) (fH l.length)):=by
 refine bP aFW (by simp[Cm]) ?_;cases l with
 |nil=>
  have e:=fun b=>tq 6 b c [];simp only[lq];simp-implicitDefEqProofs (disch:=omega) only[go_sem,Cm,e,yA,fH]
 |cons x l=>
  have e:=fun b(aj:b<=1000)=>wL (sz:=6) (bytes:=b) (r:=x.row) (rows:=l.map ds.row) (c:=c) (M:=[]) rfl aj (by rw[eu];simp only[dC] at ag;omega);have bd:=wi (sz:=6) (id:=0) (ver:=0) (n:=l.length+1) (rows:=x.row::l.map ds.row) (fz:=0) (M:=[.arr 6 (x.row::l.map ds.row) 0 0]) rfl (by simp);simp only[hY,dC,fH,eu,gY,List.nil_append] at e bd⊢;simp-implicitDefEqProofs (disch:=omega) only[go_sem,Cm,e,bd]
def jd(sz:Nat)(b:Nat)(rows:List (List V)):V:=match rows with
 |[]=>.slice [] .full
 |_::_=>.aZ b 0 0 rows.length
def uD(sz:Nat)(rows:List (List V)):Mem:=match rows with
 |[]=>[]
 |_::_=>[.arr sz rows 0 0]
theorem TL(l:List bM)(c:c4)(M:Mem)(ag:l.length<=100000):b9 au IX [.slice (l.map bM.row) c] M (fun v ah=>v=jd 8 M.length (l.map bM.row)/\ah=M++uD 8 (l.map bM.row)):=by
 refine hl aFY (by simp[Co]) ?_;simp only[hg];cases l with
 |nil=>
  have e:=fun b=>tq 8 b c M;simp only[lq];simp-implicitDefEqProofs (disch:=omega) only[go_sem,Co,e,yA,jd,uD,fA]
 |cons x l=>
  have e:=fun b(aj:b<=1000)=>wL (sz:=8) (bytes:=b) (r:=x.row) (rows:=l.map bM.row) (c:=c) (M:=M) rfl aj (by rw[eu];simp only[dC] at ag;omega);have bd:=wi (sz:=8) (id:=M.length) (ver:=0) (n:=l.length+1) (rows:=x.row::l.map bM.row) (fz:=0) (M:=M++[.arr 8 (x.row::l.map bM.row) 0 0]) (eT M _) (by simp);have e3:=eT M [.arr 8 (x.row::l.map bM.row) 0 0];simp only[hY,eu] at e bd⊢;simp-implicitDefEqProofs (disch:=omega) only[go_sem,Co,e,bd,e3,jd,uD]
end Go.aL.C
namespace Go.aL.C
open Go.aL
def kK{α β:Type}(f g:α->β)(l:List α)(i:Nat):List β:=(l.take i).map f++(l.drop i).map g
theorem VT{α β:Type}(f g:α->β)(l:List α):kK f g l l.length=l.map f:=by simp[kK]
theorem VV{α β:Type}(f g:α->β)(l:List α)(i:Nat):(kK f g l i).length=l.length:=by simp[kK];omega
theorem VU{α β:Type}{f g:α->β}{l:List α}{i:Nat}{x:α}(h:l[i]? =some x):(kK f g l i)[i]? =some (g x):=by
 have hi:=(bo.1 h).1;rw[kK,j_ (by simp;omega)];simp[Nat.min_eq_left (Nat.le_of_lt hi),h]
theorem VW{α β:Type}{f g:α->β}{l:List α}{i:Nat}{x:α}(h:l[i]? =some x):(kK f g l i).set i (f x)=kK f g l (i+1):=by
 have hi:=(bo.1 h).1;have aw:l.drop i=x::l.drop (i+1):=by
  rw[qU hi];have:=gg hi;rw[h] at this;injection this with this;rw[<-this]
 rw[kK,kK,aw,List.set_append_right _ _ (by simp;omega)];simp[Nat.min_eq_left (Nat.le_of_lt hi),iu,h]
def bM.fresh(r:bM):bM:={r with tag:=fH r.calls.length}
def j9:List V:=[.slice [] .nil,.slice [] .nil,.slice [] .nil,.slice [] .nil,.slice [] .nil,.slice [] .nil,.int .i64 0,.int .i64 0,.int .i64 0]
def ic(n:Net)(b:Nat)(oH:V):List V:=[.slice (n.stops.map Stop.row) (fH n.stops.length),.slice (n.fP.map fo.row) (fH n.fP.length),jd 8 b (n.runs.map bM.row),.slice (n.ch.map dG.row) (fH n.ch.length),.slice (n.paths.map Path.row) (fH n.paths.length),
 oH,.int .i64 n.dD.lF,.int .i64 n.dD.within,.int .i64 n.dD.pF]
theorem YQ(n:Net)(M:Mem)(aa:n.stops.length<=1000)(af:n.fP.length<=1000)(az:n.runs.length<=1000)(bh:n.ch.length<=1000)(bC:n.paths.length<=1000)(ca:n.dD.cR.length<=1000)(dY:∀r∈n.runs,r.calls.length<=1000):
 b9 au D0 [.agg n.row] M (fun v ah=>v=.agg (ic n (M.length+3) (.slice (n.dD.cR.map ds.row) (fH n.dD.cR.length)))/\ah=M++([.box n.row,.box (ic n (M.length+3) (.slice (n.dD.cR.map ds.row) (fH n.dD.cR.length))),.box (ic n (M.length+3) (.slice (n.dD.cR.map ds.row) (fH n.dD.cR.length)))]++uD 8 (n.runs.map fun r=>r.fresh.row))):=by
 have gj:=fun L=>i1 M L;have kh:=fun L=>lj M L;have eS:=fun L=>eT M L;have kz:=fun L=>jM M L;refine hl aFO (by simp[Gy]) ?_;simp only[hg];simp-implicitDefEqProofs (disch:=omega) only[go_sem,Gy,Yu,Net.row,en,eS];have d:=fun L=>gj L 2;refine Fy (aGT n.stops n.mN (by omega)) (gj _ 2) ?_;simp-implicitDefEqProofs (disch:=omega) only[go_sem,eS];refine Fy (aGS n.fP n.rc (by omega)) (gj _ 2) ?_;simp-implicitDefEqProofs (disch:=omega) only[go_sem,eS];have RW:∀a b c:a1,(M++[a,b,c]).length=M.length+3:=fun a b c=>by simp
 refine⟨jd 8 (M.length+3) (n.runs.map bM.row),_,?_,b9.mono (TL n.runs n.pS _ (by omega)) fun v N h=>⟨by rw[h.1,RW],h.2⟩,?_,?_⟩
 . rw[en];exact gj _ 2
 . refine b9.mono (TL n.runs n.pS _ (by omega)) fun v N h=>⟨by rw[h.1,eR,RW],?_⟩
   rw[h.2,en,kh,kh,en];rfl
 rw[en];simp-implicitDefEqProofs (disch:=omega) only[go_sem,eS];refine Fy (aGR n.ch n.lc (by omega)) (gj _ 2) ?_;simp-implicitDefEqProofs (disch:=omega) only[go_sem,eS];refine Fy (aGQ n.paths n.qI (by omega)) (gj _ 2) ?_;cases an:n.runs with
 |nil=>
  simp-implicitDefEqProofs (disch:=omega) only[go_sem,gj,kh,eS,jd,uD,lq];refine ge 0 (fun i vs N=>vs=[.ptr M.length 0,.ptr (M.length+1) 0,.ptr (M.length+2) 0,.int .i64 ((0:Nat):Int),.int .i64 i]/\
   N=M++[.box n.row,.box j9,.box (ic n (M.length+3) (.slice (n.dD.cR.map ds.row) n.dD.tag))]) ⟨rfl,by simp[Net.row,ic,an,jd,j9]⟩ ?_ ?_
  . intro i _ _ hi;omega
  rintro vs N ⟨rfl,rfl⟩;simp-implicitDefEqProofs (disch:=omega) only[go_sem,db,eS,Net.row,ic];refine fw (TK n.dD.cR n.dD.tag (by omega)) ?_;rintro v rfl;simp-implicitDefEqProofs (disch:=omega) only[go_sem,gj,kh,ic,j9,an,jd,lq]
 |cons fL rs=>
 have aG5:rs.length+1<=1000:=by rw[an] at az;exact az
 have aG7:∀r∈fL::rs,r.calls.length<=1000:=by rw[<-an];exact dY
 have aQ8:=fun(L:Mem)=>gj L 3;simp-implicitDefEqProofs (disch:=omega) only[go_sem,gj,kh,eS,jd,uD,hY];refine ej (fL::rs) (fun i vs N=>vs=[.ptr M.length 0,.ptr (M.length+1) 0,.ptr (M.length+2) 0,.int .i64 (fL::rs).length,.int .i64 i]/\
  N=M++[.box n.row,.box j9,.box (ic n (M.length+3) (.slice (n.dD.cR.map ds.row) n.dD.tag)),.arr 8 (kK (fun r=>r.fresh.row) bM.row (fL::rs) i) 0 0]) ⟨rfl,by simp[Net.row,ic,an,jd,j9,kK]⟩ ?_ ?_;rotate_left
 . rintro vs N ⟨rfl,rfl⟩
   simp-implicitDefEqProofs (disch:=omega) only[go_sem,db,eS,Net.row,ic];refine fw (TK n.dD.cR n.dD.tag (by omega)) ?_;rintro v rfl;simp-implicitDefEqProofs (disch:=omega) only[go_sem,gj,kh,ic,j9,an,jd,hY];have JU:=VT (fun r:bM=>r.fresh.row) bM.row (fL::rs);rw[show(fL::rs).length=rs.length+1 from rfl] at JU;rw[JU];rfl
 rintro i r vs N vD hi aw ⟨rfl,rfl⟩;have aw:decide ((i:Int)<((rs.length+1:Nat):Int))=true:=aw;have hi:i<rs.length+1:=hi;have k_:decide (i<rs.length+1)=true:=decide_eq_true hi;have h2:=VV (fun r:bM=>r.fresh.row) bM.row (fL::rs) i;have jb:(kK (fun r:bM=>r.fresh.row) bM.row (fL::rs) i)[i]? =some [.int .i64 r.te,.int .i64 r.day,.int .i64 r.inst,.str r.id,.int .i64 r.ik,.bool r.free,.bool r.gone,.slice (r.calls.map bG.row) r.tag]:=VU vD;have mK:(kK (fun r:bM=>r.fresh.row) bM.row (fL::rs) i).set i [.int .i64 r.te,.int .i64 r.day,.int .i64 r.inst,.str r.id,.int .i64 r.ik,.bool r.free,.bool r.gone,.slice (r.calls.map bG.row) (fH r.calls.length)]=kK (fun r:bM=>r.fresh.row) bM.row (fL::rs) (i+1):=VW (f:=fun r:bM=>r.fresh.row) vD;have vv:((fL::rs).length)=rs.length+1:=rfl;rw[vv] at h2;have aH4:decide (rs.length+1<=rs.length+1)=true:=decide_eq_true (cH _);simp-implicitDefEqProofs (disch:=omega) only[go_sem,aw,gj,Net.row,ic,an,jd,hY,dC,eu,h2,jb,k_];refine bV (aGP r.calls r.tag (by have:=aG7 r (dQ vD);omega)) ?_;simp-implicitDefEqProofs (disch:=omega) only[go_sem,gj,kh,h2,jb,mK,dC,k_];exact cS hi ⟨rfl,by simp[Net.row,ic,an,jd,j9]⟩
end Go.aL.C
namespace Go.aL.C
open Go.aL
theorem aP3(r:bM):bT au vO [.agg r.row] (fun v=>v=.bool (!r.gone)):=by
 refine bP aFv (by simp[Gg]) ?_;simp-implicitDefEqProofs (disch:=omega) only[go_sem,Gg,bM.row]
theorem aP4(r:bM)(q:Query){M:Mem}{a:Nat}(a7:M[a]? =some (.box q.row))(dZ:cq M.length M=true):b9 au vP [.agg r.row,.ptr a 0] M (fun v ah=>v=.bool (r.free||!q.free)/\ah=M):=by
 have dy:∀L:Mem,(M++L).take M.length=M:=fun L=>jP rfl L;have le:∀L:Mem,decide (M.length<=M.length+L.length)=true:=fun L=>decide_eq_true (by omega);have cz:=fun L=>bY a7 L;have eS:=fun L=>eT M L;simp only[Query.row] at cz;refine bP aFw (by simp[Gh]) ?_;simp-implicitDefEqProofs (disch:=omega) only[go_sem,Gh,bM.row,eS];refine ck (fun g=>?_) (fun g=>?_)
 . simp-implicitDefEqProofs (disch:=omega) only[go_sem,dy,dZ,g,Bool.true_or]
 . simp-implicitDefEqProofs (disch:=omega) only[go_sem,cz,dy,dZ,g,Bool.false_or]
theorem aP5(r:bM)(q:Query)(u:fo){M:Mem}{a b:Nat}(a7:M[a]? =some (.box q.row))(fI:M[b]? =some (.box u.row))(dZ:cq M.length M=true):b9 au vQ [.agg r.row,.ptr b 0,.ptr a 0] M (fun v ah=>v=.bool (u.Bg||!q.wP)/\ah=M):=by
 have dy:∀L:Mem,(M++L).take M.length=M:=fun L=>jP rfl L;have le:∀L:Mem,decide (M.length<=M.length+L.length)=true:=fun L=>decide_eq_true (by omega);have cz:=fun L=>bY a7 L;have c2:=fun L=>bY fI L;have eS:=fun L=>eT M L;simp only[Query.row] at cz;simp only[fo.row] at c2;refine bP aFx (by simp[Gi]) ?_;simp-implicitDefEqProofs (disch:=omega) only[go_sem,Gi,bM.row,c2];refine ck (fun g=>?_) (fun g=>?_)
 . simp-implicitDefEqProofs (disch:=omega) only[go_sem,dy,dZ,g,Bool.true_or]
 . simp-implicitDefEqProofs (disch:=omega) only[go_sem,cz,dy,dZ,g,Bool.false_or]
def Az(m k:Int):Bool:=decide (m=0)||decide (Fk .i64 (m.fdiv (2^(min k.toNat 64))) 1=1)
theorem aP6(r:bM)(q:Query)(u:fo){M:Mem}{a b:Nat}(a7:M[a]? =some (.box q.row))(fI:M[b]? =some (.box u.row))(dZ:cq M.length M=true)(hm:0<=u.mode/\u.mode<=7):b9 au vR [.agg r.row,.ptr a 0,.ptr b 0] M (fun v ah=>v=.bool (Az q.eW u.mode)/\ah=M):=by
 have dy:∀L:Mem,(M++L).take M.length=M:=fun L=>jP rfl L;have le:∀L:Mem,decide (M.length<=M.length+L.length)=true:=fun L=>decide_eq_true (by omega);have cz:=fun L=>bY a7 L;have c2:=fun L=>bY fI L;have eS:=fun L=>eT M L;have xO:dN .shr .none (.int .i64 q.eW) (.int .i64 u.mode)=some (.int .i64 (q.eW.fdiv (2^(min u.mode.toNat 64)))):=by
  show oL .shr .i64 q.eW u.mode=_;unfold oL;rw[decide_eq_false (by omega)];rfl
 simp only[Query.row] at cz;simp only[fo.row] at c2;refine bP aFy (by simp[Gj]) ?_;simp-implicitDefEqProofs (disch:=omega) only[go_sem,Gj,bM.row,cz];refine a5 (fun g=>?_) (fun g=>?_)
 . simp-implicitDefEqProofs (disch:=omega) only[go_sem,dy,dZ]
   rw[Az,decide_eq_true g,Bool.true_or]
 . simp-implicitDefEqProofs (disch:=omega) only[go_sem,cz,c2,dy,dZ,xO]
   rw[Az,decide_eq_false g,Bool.false_or]
def yM(n:Net)(q:Query)(r:bM):Bool:=!r.gone&&((r.free||!q.free)&&match n.fP[r.ik.toNat]? with
 |some u=>(u.Bg||!q.wP)&&Az q.eW u.mode
 |none=>false)
theorem aP7(r:bM)(q:Query)(u:fo){M:Mem}{a b c:Nat}(l6:M[c]? =some (.vec [.dF vO [],.fn vP [.ptr a 0],.fn vQ [.ptr b 0,.ptr a 0],.fn vR [.ptr a 0,.ptr b 0]] 0))(a7:M[a]? =some (.box q.row))(fI:M[b]? =some (.box u.row))(dZ:cq M.length M=true)(hm:0<=u.mode/\u.mode<=7):
 b9 au Iv [.agg r.row,.aZ c 0 0 4] M
  (fun v ah=>v=.bool (!r.gone&&((r.free||!q.free)&&((u.Bg||!q.wP)&&Az q.eW u.mode)))/\ah=M):=by
 have dy:∀L:Mem,(M++L).take M.length=M:=fun L=>jP rfl L;have le:∀L:Mem,decide (M.length<=M.length+L.length)=true:=fun L=>decide_eq_true (by omega);have eS:=fun L=>eT M L;have ad:∀L:Mem,cq (M.length+L.length) L=true->cq (M++L).length (M++L)=true:=fun L cV=>by
  rw[nN,dz,nO (Nat.le_add_right _ _) M dZ,cV];rfl
 have mf:cq (M++[a1.box r.row]).length (M++[a1.box r.row])=true:=ad _ (by simp[cq,a1.under,cT,V.under,bM.row]);have Be:=fun L=>bY l6 L;have tf:=aP3 r;have qR:=aP4 r q (bY a7 [a1.box r.row]) mf;have Pc:=aP5 r q u (bY a7 [a1.box r.row]) (bY fI [a1.box r.row]) mf;have XZ:=aP6 r q u (bY a7 [a1.box r.row]) (bY fI [a1.box r.row]) mf hm;simp only[bM.row] at tf qR Pc XZ;refine bP aFs (by simp[Gc]) ?_;simp-implicitDefEqProofs (disch:=omega) only[go_sem,Gc,bM.row,Be];refine ge 4 (fun i vs N=>vs=[.ptr M.length 0,.aZ c 0 0 4,.int .i64 4,.int .i64 i]/\N=M++[.box r.row]/\
  (([!r.gone,(r.free||!q.free),(u.Bg||!q.wP),Az q.eW u.mode]:List Bool).take i).all id=true) ⟨rfl,rfl,rfl⟩ ?_ ?_;rotate_left
 . rintro vs N ⟨rfl,rfl,H⟩
   have o7:decide (((4:Nat):Int)<4)=false:=rfl;simp-implicitDefEqProofs (disch:=omega) only[go_sem,o7,dy,dZ];simp only[List.take,List.all_cons,List.all_nil,id,Bool.and_true] at H;rw[H]
 rintro i vs N hi aw ⟨rfl,rfl,H⟩;simp only[bM.row];rcases(by omega:i=0∨i=1∨i=2∨i=3) with rfl|rfl|rfl|rfl
 . have o7:decide (((0:Nat):Int)<4)=true:=rfl
   simp-implicitDefEqProofs (disch:=omega) only[go_sem,o7,eS,Be];refine fw tf ?_;rintro v rfl;simp-implicitDefEqProofs (disch:=omega) only[go_sem];refine ck (fun g=>?_) (fun g=>?_)
   . simp-implicitDefEqProofs (disch:=omega) only[go_sem,dy,dZ]
     simp[g]
   . simp-implicitDefEqProofs (disch:=omega) only[go_sem]
     refine cS hi ⟨rfl,rfl,?_⟩;simp only[List.take,List.all_cons,List.all_nil,id,Bool.and_true,lV] at H⊢;simp[g]
 . have o7:decide (((1:Nat):Int)<4)=true:=rfl
   simp-implicitDefEqProofs (disch:=omega) only[go_sem,o7,eS,Be];refine ew qR ?_;rintro v N ⟨rfl,rfl⟩;simp-implicitDefEqProofs (disch:=omega) only[go_sem];refine ck (fun g=>?_) (fun g=>?_)
   . simp-implicitDefEqProofs (disch:=omega) only[go_sem]
     refine cS hi ⟨rfl,rfl,?_⟩;simp only[List.take,List.all_cons,List.all_nil,id,Bool.and_true,cc,lV] at H⊢;simp[g,H]
   . simp-implicitDefEqProofs (disch:=omega) only[go_sem,dy,dZ]
     simp[g]
 . have o7:decide (((2:Nat):Int)<4)=true:=rfl
   simp-implicitDefEqProofs (disch:=omega) only[go_sem,o7,eS,Be];refine ew Pc ?_;rintro v N ⟨rfl,rfl⟩;simp-implicitDefEqProofs (disch:=omega) only[go_sem];refine ck (fun g=>?_) (fun g=>?_)
   . simp-implicitDefEqProofs (disch:=omega) only[go_sem]
     refine cS hi ⟨rfl,rfl,?_⟩;simp only[List.take,List.all_cons,List.all_nil,id,Bool.and_true,cc,lV] at H⊢;simp[g,H]
   . simp-implicitDefEqProofs (disch:=omega) only[go_sem,dy,dZ]
     simp[g]
 . have o7:decide (((3:Nat):Int)<4)=true:=rfl
   simp-implicitDefEqProofs (disch:=omega) only[go_sem,o7,eS,Be];refine ew XZ ?_;rintro v N ⟨rfl,rfl⟩;simp-implicitDefEqProofs (disch:=omega) only[go_sem];refine ck (fun g=>?_) (fun g=>?_)
   . simp-implicitDefEqProofs (disch:=omega) only[go_sem]
     refine cS hi ⟨rfl,rfl,?_⟩;simp only[List.take,List.all_cons,List.all_nil,id,Bool.and_true,cc,lV] at H⊢;simp[g,H]
   . simp-implicitDefEqProofs (disch:=omega) only[go_sem,dy,dZ]
     simp[g]
theorem aP8(n:Net)(q:Query)(r:bM)(an:0<=r.ik/\r.ik<n.fP.length)(aA:Ba n.fP):bT au Iy [.agg n.row,.agg q.row,.agg r.row] (fun v=>v=.bool (yM n q r)):=by
 obtain⟨u,hu⟩:∃u,n.fP[r.ik.toNat]? =some u:=⟨n.fP[r.ik.toNat]'(by omega),by simp⟩;have hm:=(aA.2 _ u hu).2.1;refine bP aFz (by simp[Gf]) ?_;have MP:∀(a b c d:a1),wT [V.gz,V.gz,V.gz,V.gz] 4 [(0,1,V.dF vO []),(1,1,V.fn vP [V.ptr 1 0]),(2,1,V.fn vQ [V.ptr 3 0,V.ptr 1 0]),(3,1,V.fn vR [V.ptr 1 0,V.ptr 3 0])] [a,b,c,d]=
  some (.aZ 4 0 0 4,[a,b,c,d,.vec [.dF vO [],.fn vP [.ptr 1 0],.fn vQ [.ptr 3 0,.ptr 1 0],.fn vR [.ptr 1 0,.ptr 3 0]] 0]):=fun _ _ _ _=>rfl;simp-implicitDefEqProofs (disch:=omega) only[go_sem,Gf,Net.row,Query.row,bM.row,hu,fo.row,MP];have key:=aP7 r q u (M:=[.box n.row,.box q.row,.box r.row,.box u.row,.vec [.dF vO [],.fn vP [.ptr 1 0],.fn vQ [.ptr 3 0,.ptr 1 0],.fn vR [.ptr 1 0,.ptr 3 0]] 0]) (a:=1) (b:=3) (c:=4) rfl rfl rfl
  (by simp[cq,a1.under,cT,V.under,Net.row,Query.row,bM.row,fo.row]) hm;simp only[Net.row,Query.row,bM.row,fo.row] at key;refine ew key ?_;rintro v ah ⟨rfl,rfl⟩;simp-implicitDefEqProofs (disch:=omega) only[go_sem];simp only[yM,hu]
end Go.aL.C
namespace Go.aL.C
open Go.aL
def J5(q:Query)(s:Stop):Bool:=s.free||!q.free
theorem aM_(n:Net)(q:Query)(i:Nat)(s:Stop)(ak:n.stops[i]? =some s):bT au Ix [.agg n.row,.agg q.row,.int .i64 i] (fun v=>v=.bool (J5 q s)):=by
 refine bP aFu (by simp[Ge]) ?_;simp-implicitDefEqProofs (disch:=omega) only[go_sem,Ge,Net.row,Query.row,ak,Stop.row];refine ck (fun g=>?_) (fun g=>?_)
 . simp-implicitDefEqProofs (disch:=omega) only[go_sem,J5,g,Bool.true_or]
 . simp-implicitDefEqProofs (disch:=omega) only[go_sem,J5,g,Bool.false_or]
def f9(n:Net)(q:Query)(c:bG):bG:=match n.stops[c.stop.toNat]? with
 |some s=>if J5 q s=true then c else{c with ha:=false,fC:=false}
 |none=>c
theorem sp{sz bytes id ver n:Nat}{rows:List (List V)}{r:List V}{M:Mem}(a7:M[id]? =some (.arr sz rows ver 0))(aK:rows.length=n)(an:r.length=sz)(aj:(n+1)*(2*bytes)<=2^48):
 dX false sz bytes (.aZ id ver 0 n) (.slice [r] .full) M=some (.aZ id (ver+1) 0 (n+1),M.set id (.arr sz (rows++[r]) (ver+1) 0)):=by
 subst aK;have aw:decide ((rows.length+1)*(2*bytes)<=2^48)=true:=decide_eq_true aj;simp only[dX,eK,fr,an,dC,gY,ee,beq_self_eq_true,cond_true,g0,a7,eQ,aw]
theorem aDn(n:Net)(q:Query)(l:List bG)(c:c4)(ag:l.length<=1000)(bl:∀x∈l,0<=x.stop/\x.stop<n.stops.length):
 bT au Iw [.agg n.row,.agg q.row,.slice (l.map bG.row) c] (fun v=>v=.slice (l.map fun x=>(f9 n q x).row) .cx):=by
 refine bP aFt (by simp[Gd]) ?_;simp-implicitDefEqProofs (disch:=omega) only[go_sem,Gd,Net.row,Query.row];refine ej l (fun i vs M=>∃ver,vs=[.ptr 0 0,.ptr 1 0,.aZ 2 ver 0 i,.slice (l.map bG.row) c,.int .i64 l.length,.int .i64 i]/\M=[.box n.row,.box q.row,.arr 5 ((l.take i).map fun x=>(f9 n q x).row) ver 0]) ⟨0,rfl,rfl⟩ ?_ ?_;rotate_left
 . rintro vs M ⟨ver,rfl,rfl⟩
   simp-implicitDefEqProofs (disch:=omega) only[go_sem,db];rw[gB];have vv:(l.map fun x=>(f9 n q x).row).length=l.length:=by simp
   generalize(l.map fun x=>(f9 n q x).row)=rows at vv⊢;have bd:=wi (sz:=5) (id:=2) (ver:=ver) (n:=l.length) (rows:=rows) (fz:=0) (M:=[.box n.row,.box q.row,.arr 5 rows ver 0]) rfl vv;have e3:rows.take l.length=rows:=g_ (by omega);have l4:decide (l.length<=rows.length)=true:=decide_eq_true (by omega);simp-implicitDefEqProofs (disch:=omega) only[go_sem,↓bm 29,bd,e3,l4]
 rintro i x vs M ad hi aw ⟨ver,rfl,rfl⟩;obtain⟨s1,dq⟩:=bl x (dQ ad);obtain⟨s,ak⟩:∃s,n.stops[x.stop.toNat]? =some s:=⟨n.stops[x.stop.toNat]'(by omega),by simp⟩;have aA:=aM_ n q x.stop.toNat s ak;rw[show((x.stop.toNat:Nat):Int)=x.stop by omega] at aA;simp only[Net.row,Query.row] at aA;have vG:((l.take i).map fun x=>(f9 n q x).row).length=i:=by simp;omega
 have aV:((l.take i).map fun x=>(f9 n q x).row)++[(f9 n q x).row]=(l.take (i+1)).map fun x=>(f9 n q x).row:=by rw[iu,ad];simp
 generalize((l.take i).map fun x=>(f9 n q x).row)=R at aV vG⊢;have i4:∀(a b d:a1)(y:bG),dX false 5 32 (.aZ 2 ver 0 i) (.slice [[.int .i64 y.stop,.int .i64 y.cJ,.int .i64 y.cf,.bool y.ha,.bool y.fC]] .full) [a,b,.arr 5 R ver 0,d]=
  some (.aZ 2 (ver+1) 0 (i+1),[a,b,.arr 5 (R++[y.row]) (ver+1) 0,d]):=fun a b d y=>sp rfl vG rfl (by omega);simp-implicitDefEqProofs (disch:=omega) only[go_sem,aw,ad,bG.row,Net.row,Query.row];first|refine b1 (aA) ?_|refine bV (aA) ?_
 simp-implicitDefEqProofs (disch:=omega) only[go_sem];refine ck (fun g=>?_) (fun g=>?_)
 . have xO:f9 n q x=x:=by unfold f9;rw[ak];simp[g]
   rw[xO] at aV;simp-implicitDefEqProofs (disch:=omega) only[go_sem,i4 _ _ _ x,aV];exact dJ hi rfl ⟨ver+1,rfl,rfl⟩
 . have xO:f9 n q x={x with ha:=false,fC:=false}:=by unfold f9;rw[ak];simp[g]
   rw[xO] at aV;have af:=fun a b d=>i4 a b d {x with ha:=false,fC:=false};simp only at af;simp-implicitDefEqProofs (disch:=omega) only[go_sem,af,aV];exact dJ hi rfl ⟨ver+1,rfl,rfl⟩
end Go.aL.C
namespace Go.aL.C
open Go.aL
theorem p9(n low high:Int):bT au ub [.int .i64 n,.int .i64 low,.int .i64 high] (fun v=>v=.bool (decide (low<=n/\n<=high))):=by
 refine bP aFq (by simp[Ga]) ?_;simp-implicitDefEqProofs (disch:=omega) only[go_sem,Ga];refine a5 (fun h=>?_) (fun h=>?_)
 . simp-implicitDefEqProofs (disch:=omega) only[go_sem]
   exact decide_eq_decide.2 (by omega)
 . simp-implicitDefEqProofs (disch:=omega) only[go_sem]
   symm;exact decide_eq_false (by omega)
theorem PH(n:Net)(q:Query)(aK:n.wf)(ok:f4 n)(aG:q6 n.stops.length q):bT au DS [.agg n.row,.agg q.row] (fun v=>v=.int .i64 0):=by
 have ar:=Es n aK ok;have ak:=ok.stops;obtain⟨dx,dm,hc,s3,Kj,aRZ,aNG⟩:=aG;simp only[Net.row] at ar;refine bP aFp (by simp[F_]) ?_;simp-implicitDefEqProofs (disch:=omega) only[go_sem,F_,Net.row,Query.row];first|refine b1 (ar) ?_|refine bV (ar) ?_
 simp-implicitDefEqProofs (disch:=omega) only[go_sem];first|refine b1 (p9 _ _ _) ?_|refine bV (p9 _ _ _) ?_
 have gL:decide (0<=q.src/\q.src<=(n.stops.length:Int) -1)=true:=decide_eq_true (by omega);simp-implicitDefEqProofs (disch:=omega) only[go_sem,gL];first|refine b1 (p9 _ _ _) ?_|refine bV (p9 _ _ _) ?_
 have kS:decide (0<=q.dst/\q.dst<=(n.stops.length:Int) -1)=true:=decide_eq_true (by omega);simp-implicitDefEqProofs (disch:=omega) only[go_sem,kS];first|refine b1 (p9 _ _ _) ?_|refine bV (p9 _ _ _) ?_
 have wv:decide (0<=q.time/\q.time<=3155932800)=true:=decide_eq_true (by omega);simp-implicitDefEqProofs (disch:=omega) only[go_sem,wv];first|refine b1 (p9 _ _ _) ?_|refine bV (p9 _ _ _) ?_
 have Ps:decide (0<=q.b5/\q.b5<=8)=true:=decide_eq_true (by omega);simp-implicitDefEqProofs (disch:=omega) only[go_sem,Ps];first|refine b1 (p9 _ _ _) ?_|refine bV (p9 _ _ _) ?_
 have aQn:decide (0<=q.walk/\q.walk<=86400)=true:=decide_eq_true (by omega);simp-implicitDefEqProofs (disch:=omega) only[go_sem,aQn];first|refine b1 (p9 _ _ _) ?_|refine bV (p9 _ _ _) ?_
 have aQo:decide (0<=q.eW/\q.eW<=255)=true:=decide_eq_true (by omega);simp-implicitDefEqProofs (disch:=omega) only[go_sem,aQo];refine ck (fun g=>?_) (fun g=>?_)
 . simp-implicitDefEqProofs (disch:=omega) only[go_sem]
   refine ck (fun a2=>absurd ⟨g,a2⟩ aNG) (fun _=>?_);simp-implicitDefEqProofs (disch:=omega) only[go_sem]
 . simp-implicitDefEqProofs (disch:=omega) only[go_sem]
def i0(n:Net)(q:Query)(r:bM):bM:={r with gone:=!yM n q r,calls:=r.calls.map (f9 n q),tag:=.cx}
def BC(l:List Path):c4:=match l with|[]=>.nil|_::_=>.cx
def f6(n:Net)(q:Query):Net:=
 {stops:=n.stops,fP:=n.fP,runs:=n.runs.map (i0 n q),ch:=n.ch
  paths:=if q.free=true then n.paths.filter (·.free) else n.paths
  dD:={n.dD with tag:=fH n.dD.cR.length}
  mN:=fH n.stops.length,rc:=fH n.fP.length,pS:=fH n.runs.length,lc:=fH n.ch.length
  qI:=if q.free=true then BC (n.paths.filter (·.free)) else fH n.paths.length}
def A_(k:Nat)(L:Mem)(x:V)(done:List Path):Prop:=(x=.slice [] .nil/\done=[])∨∃b ver,x=.aZ (k+1+b) ver 0 done.length/\L[b]? =some (.arr 4 (done.map Path.row) ver 0)/\0<done.length
theorem PT{k:Nat}{L:Mem}{x:V}{done:List Path}(h:A_ k L x done)(K:Mem):A_ k (L++K) x done:=by
 rcases h with h|⟨b,ver,aa,af,az⟩
 . exact .inl h
 . exact .inr ⟨b,ver,aa,bY af K,az⟩
theorem aaQ{P:Mem}{k:Nat}(ao:P.length=k){L:Mem}{x:V}{done:List Path}(h:A_ k L x done)(B:a1)(p:Path)(aw:done.length<=1000):
 ∃b ver L',dX false 4 32 x (.slice [[.int .i64 p.src,.int .i64 p.dst,.int .i64 p.dL,.bool p.free]] .full) (P++B::L)=some (.aZ (k+1+b) ver 0 (done.length+1),P++B::L')/\L'[b]? =some (.arr 4 ((done++[p]).map Path.row) ver 0):=by
 have e:∀K:Mem,P++B::K=(P++[B])++K:=fun K=>by simp
 have ag:(P++[B]).length=k+1:=by simp[ao]
 rcases h with⟨rfl,rfl⟩|⟨b,ver,rfl,af,_⟩
 . refine⟨L.length,0,L++[.arr 4 [[.int .i64 p.src,.int .i64 p.dst,.int .i64 p.dL,.bool p.free]] 0 0],?_,eT L _⟩
   have hlen:(P++B::L).length=k+1+L.length:=by simp[ao];omega
   simp only[dX,eK,g0,fr,dC,gY,ee,beq_self_eq_true,cond_true,Nat.reduceMul,Nat.reducePow,Nat.reduceLeDiff,decide_true,Bool.true_or,eQ,List.nil_append,hlen,en,List.cons_append]
 . refine⟨b,ver+1,L.set b (.arr 4 (done.map Path.row++[p.row]) (ver+1) 0),?_,?_⟩
   . have a7:(P++B::L)[k+1+b]? =some (.arr 4 (done.map Path.row) ver 0):=by rw[e,<-ag,i1];exact af
     have:=sp (bytes:=32) (n:=done.length) (r:=p.row) a7 (by simp) rfl (by omega);refine Eq.trans this ?_;rw[e L,e (L.set b _),<-ag,lj]
   . rw[eB (bo.1 af).1];simp
theorem Qs{P:Mem}{k:Nat}(ao:P.length=k)(n:Net)(bC:n.paths.length<=60)(fp bW b8 cN e2 fV jx n8 kR:V)(Q:Exit->aI->Mem->Prop)
 (gw:∀s x L,aX s 4=kR->aX s 7=.ptr k 0->A_ k L x (n.paths.filter (·.free))->Q .normal s (P++.box [fp,bW,b8,cN,x,e2,fV,jx,n8]::L)):
 dn au Ra Q [(4,kR),(7,.ptr k 0),(54,.slice (n.paths.map Path.row) n.qI),(55,.int .i64 n.paths.length),(56,.int .i64 0)] (P++[.box [fp,bW,b8,cN,.slice [] .nil,e2,fV,jx,n8]]):=by
 simp-implicitDefEqProofs (disch:=omega) only[go_sem,↓bm 55];refine ej n.paths (fun i vs N=>∃x L,vs=[kR,.ptr k 0,.slice (n.paths.map Path.row) n.qI,.int .i64 n.paths.length,.int .i64 i]/\N=P++.box [fp,bW,b8,cN,x,e2,fV,jx,n8]::L/\A_ k L x ((n.paths.take i).filter (·.free))) ⟨_,[],rfl,rfl,.inl ⟨rfl,by simp⟩⟩ ?_ ?_;rotate_left
 . rintro vs N ⟨x,L,rfl,rfl,h⟩
   rw[gB] at h;simp-implicitDefEqProofs (disch:=omega) only[go_sem,db];exact gw _ x L rfl rfl h
 rintro i p vs N ay hi aw ⟨x,L,rfl,rfl,h⟩;have aV:(n.paths.take (i+1)).filter (·.free)=(n.paths.take i).filter (·.free)++if p.free=true then[p] else[]:=by
  rw[iu,ay,List.filter_append];cases aD:p.free<;>simp[aD]
 have h0:((n.paths.take i).filter (·.free)).length<=60:=kb (List.length_filter_le _ _) (by rw[iS];omega);obtain⟨b,ver,L',aa,af⟩:=aaQ ao (PT h [.box p.row]) (.box [fp,bW,b8,cN,x,e2,fV,jx,n8]) p (by omega);have rp:∀(B:a1)(K:Mem),(P++B::K)[k]? =some B:=fun B K=>by rw[<-ao,eT];rfl
 have aT:∀(B C:a1)(K:Mem),(P++B::K).set k C=P++C::K:=fun B C K=>by rw[<-ao,jM];rfl
 have a2:∀(B Z:a1),(P++B::(L++[Z]))[P.length+(L.length+1)]? =some Z:=fun B Z=>by
  rw[i1,List.getElem?_cons_succ,eT];rfl
 have bJ:∀(B Z Y:a1),(P++B::(L++[Z])).set (P.length+(L.length+1)) Y=P++B::(L++[Y]):=fun B Z Y=>by
  rw[lj,List.set_cons_succ,jM];rfl
 simp-implicitDefEqProofs (disch:=omega) only[go_sem,aw,ay,Path.row,en,List.cons_append,a2,bJ];simp only[Path.row] at aa;refine ck (fun g=>?_) (fun g=>?_)
 . rw[if_pos g] at aV
   simp-implicitDefEqProofs (disch:=omega) only[go_sem,rp,aT,a2,aa];refine cS hi ⟨_,L',rfl,rfl,.inr ⟨b,ver,by rw[aV,dz];rfl,by rw[aV];exact af,by rw[aV];simp⟩⟩
 . rw[if_neg (by rw[g];simp),fA] at aV
   simp-implicitDefEqProofs (disch:=omega) only[go_sem];refine cS hi ⟨x,L++[.box p.row],rfl,rfl,by rw[aV];exact PT h _⟩
theorem aEW(n:Net)(q:Query)(r:bM):(i0 n q r).row=[.int .i64 r.te,.int .i64 r.day,.int .i64 r.inst,.str r.id,.int .i64 r.ik,.bool r.free,.bool (!yM n q r),.slice (r.calls.map fun x=>(f9 n q x).row) .cx]:=by
 simp[i0,bM.row]
theorem PE(n:Net)(q:Query)(aK:n.wf)(ok:f4 n)(aG:q6 n.stops.length q):bT au Iu [.agg n.row,.agg q.row] (fun v=>v=.tuple [.agg (f6 n q).row,.int .i64 0]):=by
 have MV:=PH n q aK ok aG;obtain⟨bI,ce,dS,ft,fl,ij⟩:=ok;have aRN:=bI.stops.1;have aRL:=bI.fP.1;have Uq:=(FG (by rw[bI.dD])).len;have dg:b9 au D0 [.agg n.row] [.box n.row,.box q.row,.box j9] (fun v ah=>v=.agg (ic n 6 (.slice (n.dD.cR.map ds.row) (fH n.dD.cR.length)))/\∃lu mT:a1,lu.under 8=true/\mT.under 8=true/\ah=[.box n.row,.box q.row,.box j9]++([lu,mT,mT]++uD 8 (n.runs.map fun r=>r.fresh.row))):=
  b9.mono (YQ n [.box n.row,.box q.row,.box j9] (by omega) (by omega) (by omega) (by omega) (by omega) (by omega) (fun r an=>by have:=ij r an;omega)) fun v ah h=>
   ⟨h.1,_,_,by simp[a1.under,cT,V.under,Net.row],by simp only[a1.under,ic];cases n.runs<;>simp[jd,cT,V.under],h.2⟩;refine bP aFr (by simp[Gb]) ?_;simp only[Net.row,Query.row,j9] at MV dg;simp-implicitDefEqProofs (disch:=omega) only[go_sem,Gb,Net.row,Query.row];first|refine b1 (MV) ?_|refine bV (MV) ?_
 simp-implicitDefEqProofs (disch:=omega) only[go_sem];refine ew dg ?_;rintro v ah ⟨rfl,lu,mT,tf,qR,rfl⟩;cases an:n.runs with
 |nil=>
  simp-implicitDefEqProofs (disch:=omega) only[go_sem,an,jd,uD,lq,ic];refine ge 0 (fun i vs N=>vs=[.ptr 0 0,.ptr 1 0,.ptr 2 0,.ptr 6 0,.slice [] n.pS,.int .i64 ((0:Nat):Int),.int .i64 i]/\N=[.box n.row,.box q.row,.box j9,lu,mT,mT,.box (ic n 6 (.slice (n.dD.cR.map ds.row) (fH n.dD.cR.length)))]) ⟨rfl,by simp[Net.row,Query.row,j9,ic,an,jd]⟩ ?_ ?_
  . intro i _ _ hi;omega
  rintro vs N ⟨rfl,rfl⟩;simp-implicitDefEqProofs (disch:=omega) only[go_sem,db,Net.row,Query.row,ic,an,jd,lq];refine ck (fun g=>?_) (fun g=>?_)
  . simp-implicitDefEqProofs (disch:=omega) only[go_sem,Net.row,Query.row,ic,an,jd,lq]
    refine Qs (k:=6) (P:=[_,_,_,lu,mT,mT]) rfl n fl _ _ _ _ _ _ _ _ _ _ fun s x L jZ Dy fj=>?_;rcases fj with⟨rfl,ay⟩|⟨b,ver,rfl,cV,pt⟩
    . simp-implicitDefEqProofs (disch:=omega) only[go_sem,↓bm 61,jZ,Dy,j9]
      simp[f6,g,an,ay,BC,fH]
    . have M9:∀fp bW b8 cN dl e2 fV:a1,(fp::bW::b8::cN::dl::e2::fV::L)[7+b]? =some (.arr 4 ((n.paths.filter (·.free)).map Path.row) ver 0):=fun fp bW b8 cN dl e2 fV=>(i1 [fp,bW,b8,cN,dl,e2,fV] L b).trans cV
      have aV:((n.paths.filter (·.free)).map Path.row).take (n.paths.filter (·.free)).length=(n.paths.filter (·.free)).map Path.row:=g_ (by simp);have ig:decide (7+b<0)=false:=decide_eq_false (e8 _);have zM:BC (n.paths.filter (·.free))=.cx:=by
       cases aD:n.paths.filter (·.free) with
       |nil=>rw[aD] at pt;cases pt
       |cons _ _=>rfl
      simp-implicitDefEqProofs (disch:=omega) only[go_sem,↓bm 61,jZ,Dy,j9,M9,aV,ig];simp[f6,g,an,zM,fH]
  . simp-implicitDefEqProofs (disch:=omega) only[go_sem,↓bm 61,j9,Net.row,Query.row,ic,an,jd,lq]
    simp[f6,g,an,fH]
 |cons fL rs=>
 have aG5:rs.length+1<=7:=by rw[an] at dS;exact dS
 have mG:∀(i:Nat)(r:bM),(fL::rs)[i]? =some r->n.runs[i]? =some r:=fun i r h=>by rw[an];exact h
 simp-implicitDefEqProofs (disch:=omega) only[go_sem,an,jd,uD,hY,ic];refine ej (fL::rs) (fun i vs N=>vs=[.ptr 0 0,.ptr 1 0,.ptr 2 0,.ptr 7 0,.slice ((fL::rs).map bM.row) n.pS,.int .i64 (fL::rs).length,.int .i64 i]/\
  N=[.box n.row,.box q.row,.box j9,lu,mT,mT,.arr 8 (kK (fun r=>(i0 n q r).row) (fun r=>r.fresh.row) (fL::rs) i) 0 0,.box (ic n 6 (.slice (n.dD.cR.map ds.row) (fH n.dD.cR.length)))]) ⟨rfl,by simp[Net.row,Query.row,j9,ic,an,jd,kK]⟩ ?_ ?_;rotate_left
 . rintro vs N ⟨rfl,rfl⟩
   have JU:=VT (fun r:bM=>(i0 n q r).row) (fun r=>r.fresh.row) (fL::rs);rw[JU];generalize fI:(fL::rs).map (fun r=>(i0 n q r).row)=R;simp-implicitDefEqProofs (disch:=omega) only[go_sem,db,Net.row,Query.row,ic,an,jd,hY];have tL:R.length=rs.length+1:=by rw[<-fI];simp
   have LZ:R.take (rs.length+1)=R:=g_ (by omega);have LS:decide (rs.length+1<=R.length)=true:=decide_eq_true (by omega);refine ck (fun g=>?_) (fun g=>?_)
   . simp-implicitDefEqProofs (disch:=omega) only[go_sem,Net.row,Query.row,ic,an,jd,hY]
     refine Qs (k:=7) (P:=[_,_,_,lu,mT,mT,_]) rfl n fl _ _ _ _ _ _ _ _ _ _ fun s x L jZ Dy fj=>?_;rcases fj with⟨rfl,ay⟩|⟨b,ver,rfl,cV,pt⟩
     . simp-implicitDefEqProofs (disch:=omega) only[go_sem,↓bm 61,jZ,Dy,j9,LZ,LS]
       simp[f6,g,an,ay,BC,fH,<-fI]
     . have M9:∀fp bW b8 cN dl e2 fV jx:a1,(fp::bW::b8::cN::dl::e2::fV::jx::L)[8+b]? =some (.arr 4 ((n.paths.filter (·.free)).map Path.row) ver 0):=fun fp bW b8 cN dl e2 fV jx=>(i1 [fp,bW,b8,cN,dl,e2,fV,jx] L b).trans cV
       have aV:((n.paths.filter (·.free)).map Path.row).take (n.paths.filter (·.free)).length=(n.paths.filter (·.free)).map Path.row:=g_ (by simp);have ig:decide (8+b<0)=false:=decide_eq_false (e8 _);have zM:BC (n.paths.filter (·.free))=.cx:=by
        cases aD:n.paths.filter (·.free) with
        |nil=>rw[aD] at pt;cases pt
        |cons _ _=>rfl
       simp-implicitDefEqProofs (disch:=omega) only[go_sem,↓bm 61,jZ,Dy,j9,M9,aV,ig,LZ,LS];simp[f6,g,an,zM,fH,<-fI]
   . simp-implicitDefEqProofs (disch:=omega) only[go_sem,↓bm 61,j9,LZ,LS,Net.row,Query.row,ic,an,jd,hY]
     simp[f6,g,an,fH,<-fI]
 rintro i r vs N vD hi aw ⟨rfl,rfl⟩;have H2:=mG i r vD;have Dx:r∈n.runs:=dQ H2;have aw:decide ((i:Int)<((rs.length+1:Nat):Int))=true:=aw;have hi:i<rs.length+1:=hi;have k_:decide (i<rs.length+1)=true:=decide_eq_true hi;have aH4:decide (rs.length+1<=rs.length+1)=true:=decide_eq_true (cH _);have b7:=bI.runs.2 i r H2;have qg:=b7.2.2.2.2.2.1;have hu:=aP8 n q r b7.2.2.2.2.1 bI.fP;have ar:=aDn n q r.calls r.tag (by have:=ij r Dx;omega) (fun x ad=>by
  obtain⟨k,ao⟩:=ir ad;exact(qg.2.2 k x ao).1);generalize xP:(r.calls.map fun x=>(f9 n q x).row)=aa_ at ar;simp only[Net.row,Query.row,bM.row,an,hY] at hu ar;have Us:((fL::rs).map bM.row)[i]? =some [.int .i64 r.te,.int .i64 r.day,.int .i64 r.inst,.str r.id,.int .i64 r.ik,.bool r.free,.bool r.gone,.slice (r.calls.map bG.row) r.tag]:=by
  rw[gX,vD];rfl
 have h2:=VV (fun r:bM=>(i0 n q r).row) (fun r:bM=>r.fresh.row) (fL::rs) i;rw[show(fL::rs).length=rs.length+1 from rfl] at h2;have jb:(kK (fun r:bM=>(i0 n q r).row) (fun r:bM=>r.fresh.row) (fL::rs) i)[i]? =some [.int .i64 r.te,.int .i64 r.day,.int .i64 r.inst,.str r.id,.int .i64 r.ik,.bool r.free,.bool r.gone,.slice (r.calls.map bG.row) (fH r.calls.length)]:=VU vD;have mK:(kK (fun r:bM=>(i0 n q r).row) (fun r:bM=>r.fresh.row) (fL::rs) i).set i [.int .i64 r.te,.int .i64 r.day,.int .i64 r.inst,.str r.id,.int .i64 r.ik,.bool r.free,.bool (!yM n q r),.slice aa_ .cx]=kK (fun r:bM=>(i0 n q r).row) (fun r:bM=>r.fresh.row) (fL::rs) (i+1):=by
  have:=VW (f:=fun r:bM=>(i0 n q r).row) (g:=fun r:bM=>r.fresh.row) vD;simp only[aEW n q r,xP] at this;exact this
 generalize kK (fun r:bM=>(i0 n q r).row) (fun r:bM=>r.fresh.row) (fL::rs) i=R at h2 jb mK⊢;have aMb:∀row:List V,(R.set i row)[i]? =some row:=fun row=>eB (by omega);have aMc:∀row OH:List V,(R.set i row).set i OH=R.set i OH:=fun row OH=>List.set_set ..;have aMd:∀row:List V,(R.set i row).length=rs.length+1:=fun row=>by rw[eR];exact h2
 rw[hY] at Us;simp-implicitDefEqProofs (disch:=omega) only[go_sem,aw,Us,Net.row,Query.row,ic,an,jd,hY,dC,eu];refine bV hu ?_;simp-implicitDefEqProofs (disch:=omega) only[go_sem,h2,jb,k_];refine bV ar ?_;simp-implicitDefEqProofs (disch:=omega) only[go_sem,mK,aMb,aMc,aMd,k_];exact dJ hi (by simp only[hT,dr,aX,cT,cq,j9,tf,qR,List.take];simp[a1.under,cT,V.under]) ⟨rfl,by simp[Net.row,Query.row,ic,an,jd,j9]⟩
end Go.aL.C
namespace Go.aL.C
open Go.aL
theorem yx(n:Net)(q:Query)(c:bG):(f9 n q c).stop=c.stop:=by
 unfold f9;split
 . split<;>rfl
 . rfl
theorem OU(n:Net)(q:Query)(c:bG):(f9 n q c).cJ=c.cJ:=by
 unfold f9;split
 . split<;>rfl
 . rfl
theorem Ku(n:Net)(q:Query)(c:bG):(f9 n q c).cf=c.cf:=by
 unfold f9;split
 . split<;>rfl
 . rfl
theorem map_some{α β:Type}{f:α->β}{l:List α}{i:Nat}{y:β}(h:(l.map f)[i]? =some y):∃x,l[i]? =some x/\y=f x:=by
 rw[gX] at h;obtain⟨x,ad,rfl⟩:=dK.1 h;exact⟨x,ad,rfl⟩
theorem aCV(n:Net)(q:Query){l:List bG}{stops low high:Int}(h:A4 l stops low high):A4 (l.map (f9 n q)) stops low high:=by
 refine⟨by rw[eu];exact h.1,by rw[eu];exact h.2.1,fun i c ar=>?_⟩;obtain⟨x,ad,rfl⟩:=map_some ar;obtain⟨aa,af,az⟩:=h.2.2 i x ad;rw[yx,OU,Ku];refine⟨aa,af,fun p hi ay=>?_⟩;obtain⟨y,aE,rfl⟩:=map_some ay;rw[yx,Ku];exact az y hi aE
theorem aOB(n:Net)(q:Query)(h:y8 n):y8 (f6 n q):=by
 refine⟨by simp[f6];exact h.1,fun i r an=>?_⟩;obtain⟨x,ad,rfl⟩:=map_some (show(n.runs.map (i0 n q))[i]? =some r from an);obtain⟨aa,af,az,bh,bC,ca,dY⟩:=h.2 i x ad;refine⟨aa,af,az,bh,bC,aCV n q ca,fun k o ao aA=>?_⟩;obtain⟨y,aE,rfl⟩:=map_some (show(n.runs.map (i0 n q))[k]? =some o from aA);exact dY k y ao aE
theorem aLK(n:Net)(q:Query)(h:y3 n):y3 (f6 n q):=by
 refine⟨h.1,fun i l ag=>?_⟩;have m0:=h.2 i l ag;have hlen:(f6 n q).runs.length=n.runs.length:=by simp[f6]
 refine⟨by rw[hlen];exact m0.src,by rw[hlen];exact m0.dst,m0.ne,fun a b a9 aj=>?_,m0.uniq,m0.free,m0.key⟩;obtain⟨x,ad,rfl⟩:=map_some (show(n.runs.map (i0 n q))[l.src.toNat]? =some a from a9);obtain⟨y,aE,rfl⟩:=map_some (show(n.runs.map (i0 n q))[l.dst.toNat]? =some b from aj);obtain⟨aa,af,az,bh⟩:=m0.calls x y ad aE;have a4:(i0 n q x).calls.length=x.calls.length:=by simp[i0]
 have bd:(i0 n q y).calls.length=y.calls.length:=by simp[i0]
 refine⟨by rw[a4];exact aa,by rw[bd];exact af,fun c d ar aw=>?_,fun ak=>by rw[a4];exact bh ak⟩;obtain⟨u,hu,rfl⟩:=map_some (show(x.calls.map (f9 n q))[l.h5.toNat]? =some c from ar);obtain⟨w,hw,rfl⟩:=map_some (show(y.calls.map (f9 n q))[l.kj.toNat]? =some d from aw);rw[yx,yx];exact az u w hu hw
def W8(o p:Path):Prop:=o.src=p.src/\o.dst=p.dst/\o.free=p.free
theorem OZ(l:List Path)(N:Nat):q7 l N↔(∀p∈l,p.j2 N/\p.src≠p.dst)/\l.Pairwise fun o p=>¬W8 o p:=by
 constructor
 . intro h
   refine⟨fun p ay=>?_,List.pairwise_iff_getElem.2 fun i j hi ap jW=>?_⟩
   . obtain⟨i,hi⟩:=ir ay
     exact⟨(h i p hi).1,(h i p hi).2.1⟩
   . exact(h j l[j] (gg ap)).2.2 i l[i] jW (gg hi)
 . rintro⟨aa,af⟩ i p ay
   have hm:=aa p (dQ ay);refine⟨hm.1,hm.2,fun k o ao aA=>?_⟩;obtain⟨hi,rfl⟩:=bo.1 ay;obtain⟨i7,rfl⟩:=bo.1 aA;exact List.pairwise_iff_getElem.1 af k i i7 hi ao
theorem aPg{l:List Path}{N:Nat}(f:Path->Bool)(h:q7 l N):q7 (l.filter f) N:=by
 rw[OZ] at h⊢;exact⟨fun p ay=>h.1 p (oU.1 ay).1,h.2.filter _⟩
theorem RP{l:List Path}{N:Nat}{F:Nat->Nat->Int}(cr:Bool)(h:oX l N true F):oX (l.filter (·.free)) N cr F:=by
 refine⟨fun p ay _=>?_,h.wm,fun D d4 i2 i j hi ap=>h.qK D d4 (fun p ay aD=>i2 p (oU.2 ⟨ay,aD rfl⟩) fun _=>aD rfl) i j hi ap,h.kA⟩;obtain⟨aa,af⟩:=oU.1 ay;exact h.rm p aa fun _=>af
theorem aC4{W F:Nat->Nat->Int}{i k:Nat}(T6:i≠k->W i k<=F i k):(k4 W F i k).filter (·.free)=k4 F F i k:=by
 unfold k4;by_cases i6:i=k
 . rw[if_pos (.inl i6),if_pos (.inl i6)];rfl
 have aa:=T6 i6;by_cases hw:14400<W i k
 . rw[if_pos (.inr hw),if_pos (.inr (by omega))];rfl
 rw[if_neg (show¬(i=k∨14400<W i k) by omega)];by_cases aD:14400<F i k
 . rw[if_pos (show i=k∨14400<F i k from .inr aD),if_neg (show¬(W i k<F i k/\F i k<=14400) by omega)]
   simp;omega
 . rw[if_neg (show¬(i=k∨14400<F i k) by omega),if_neg (show¬(F i k<F i k/\F i k<=14400) by omega)]
   by_cases he:F i k=W i k
   . rw[if_neg (show¬(W i k<F i k/\F i k<=14400) by omega)]
     simp[he]
   . rw[if_pos (show W i k<F i k/\F i k<=14400 by omega)]
     simp[he]
theorem Sq{α β:Type}{l:List α}{f g:α->List β}(h:∀x∈l,f x=g x):l.flatMap f=l.flatMap g:=by
 induction l with
 |nil=>rfl
 |cons a l bu=>
  rw[List.flatMap_cons,List.flatMap_cons,h a (by simp),bu fun x ad=>h x (by simp[ad])]
theorem aDm{l:List Path}{N:Nat}(eN:∀p∈l,p.j2 N)(h:uN l N):uN (l.filter (·.free)) N:=by
 obtain⟨W,F,ez,bN,ag⟩:=h;refine⟨F,F,RP false bN,RP true bN,?_⟩;have hle:∀i k,i<N->k<N->i≠k->W i k<=F i k:=fun i k hi ao cD=>RQ ez bN eN hi ao (gq cD);conv=>lhs;rw[ag]
 unfold gt;rw[List.filter_flatMap];refine Sq fun i hi=>?_;unfold lb;rw[List.filter_flatMap];exact Sq fun k ao=>aC4 (hle i k (ka.1 hi) (ka.1 ao))
theorem Li(n:Net)(q:Query)(ok:f4 n):f4 (f6 n q):=by
 obtain⟨⟨s1,dq,wc,kR,OL,W6,aOF⟩,ce,dS,ft,fl,ij⟩:=ok;have eN:∀p∈n.paths,p.j2 n.stops.length:=fun p ay=>by
  obtain⟨i,hi⟩:=ir ay;exact(OL i p hi).1
 refine⟨⟨s1,dq,aOB n q wc,aLK n q kR,?_,?_,aOF⟩,ce,by simp[f6];exact dS,ft,?_,fun r an=>?_⟩
 . show q7 (if q.free=true then n.paths.filter (·.free) else n.paths) n.stops.length
   split
   . exact aPg _ OL
   . exact OL
 . show uN (if q.free=true then n.paths.filter (·.free) else n.paths) n.stops.length
   split
   . exact aDm eN W6
   . exact W6
 . show(if q.free=true then n.paths.filter (·.free) else n.paths).length<=60
   split
   . exact kb (List.length_filter_le _ _) fl
   . exact fl
 . obtain⟨x,ad,rfl⟩:=lr.1 (show r∈n.runs.map (i0 n q) from an)
   simp only[i0,eu];exact ij x ad
theorem aO2(n:Net)(q:Query){c:bG}(h:c.wf):(f9 n q c).wf:=by
 unfold bG.wf at h⊢;rw[yx,OU,Ku];exact h
theorem Qt(n:Net)(q:Query)(aK:n.wf):(f6 n q).wf:=by
 obtain⟨aa,af,az,bh,bC,ca⟩:=aK;refine⟨aa,af,⟨fun r an=>?_,by simp[f6];exact az.2⟩,bh,?_,ca⟩
 . obtain⟨x,ad,rfl⟩:=lr.1 (show r∈n.runs.map (i0 n q) from an)
   obtain⟨a,b,c,d,e,f,g⟩:=az.1 x ad;refine⟨a,b,c,d,e,fun y aE=>?_,by simp[i0];exact g⟩;obtain⟨z,a_,rfl⟩:=lr.1 (show y∈x.calls.map (f9 n q) from aE);exact aO2 n q (f z a_)
 . show(∀s∈(if q.free=true then n.paths.filter (·.free) else n.paths),s.wf)/\(if q.free=true then n.paths.filter (·.free) else n.paths).length<=maxLen
   split
   . exact⟨fun s ak=>bC.1 s (oU.1 ak).1,kb (List.length_filter_le _ _) bC.2⟩
   . exact bC
end Go.aL.C
namespace Go.aL.C
open Go.aL
def j4(z:Int):Nat:=if 0<=z/\z<=63 then 2^z.toNat else 0
theorem Ok(z:Int):j4 z<18446744073709551616:=by
 unfold j4;split
 . exact XX (by omega)
 . omega
theorem Fw(z:Int):bT au DH [.int .i64 z] (fun v=>v=.int .u64 (j4 z:Nat)):=by
 refine bP SC (by simp[BL]) ?_;simp-implicitDefEqProofs (disch:=omega) only[go_sem,BL];refine a5 (fun h=>?_) (fun h=>?_)
 . simp-implicitDefEqProofs (disch:=omega) only[go_sem]
   rw[j4,if_neg (by omega)];rfl
 simp-implicitDefEqProofs (disch:=omega) only[go_sem];refine a5 (fun af=>?_) (fun af=>?_)
 . simp-implicitDefEqProofs (disch:=omega) only[go_sem]
   rw[j4,if_neg (by omega)];rfl
 have xO:dN .shl .none (.int .u64 1) (.int .i64 z)=some (.int .u64 (j4 z:Nat)):=by
  show oL .shl .u64 1 z=_;unfold oL;rw[decide_eq_false h];have a4:min z.toNat IntKind.u64.bits=z.toNat:=by
   show min z.toNat 64=z.toNat;omega
  have bd:(1:Int)*2^z.toNat=((2^z.toNat:Nat):Int):=by simp
  simp only[cond_false,a4,bd];rw[AW _ (XX (by omega)),j4,if_pos ⟨by omega,by omega⟩]
 simp-implicitDefEqProofs (disch:=omega) only[go_sem,xO]
theorem QL(s:Nat)(z:Int)(ak:s<18446744073709551616):bT au Ia [.int .u64 s,.int .i64 z] (fun v=>v=.int .u64 ((s|||j4 z:Nat):Int)):=by
 refine bP SA (by simp[BJ]) ?_;simp-implicitDefEqProofs (disch:=omega) only[go_sem,BJ];first|refine b1 (Fw z) ?_|refine bV (Fw z) ?_
 simp-implicitDefEqProofs (disch:=omega) only[go_sem,Ev s (j4 z) ak (Ok z)]
theorem QK(z:Int):bT au H9 [.slice [[.int .i64 z]] .full] (fun v=>v=.int .u64 (j4 z:Nat)):=by
 have aA:=Ev 0 (j4 z) (by omega) (Ok z);rw[Nat.zero_or] at aA;refine bP Sx (by simp[BG]) ?_;simp-implicitDefEqProofs (disch:=omega) only[go_sem,BG];refine ej [z] (fun i vs M=>vs=[.int .u64 (if i=0 then 0 else(j4 z:Int)),.slice [[.int .i64 z]] .full,.int .i64 ([z]:List Int).length,.int .i64 i]/\M=[]) ⟨rfl,rfl⟩ ?_ ?_;rotate_left
 . rintro vs M ⟨rfl,rfl⟩
   simp-implicitDefEqProofs (disch:=omega) only[go_sem,db];rfl
 rintro i x vs M ad hi aw ⟨rfl,rfl⟩;have zO:i=0:=by simp at hi;exact hi
 subst zO;have aKx:x=z:=by simp at ad;exact ad.symm
 subst aKx;have o7:decide (((0:Nat):Int)<((1:Nat):Int))=true:=rfl;simp-implicitDefEqProofs (disch:=omega) only[go_sem,o7];first|refine b1 (Fw x) ?_|refine bV (Fw x) ?_
 have fY:dN .or .none (.int .u64 0) (.int .u64 (j4 x:Nat))=some (.int .u64 (j4 x:Nat)):=by
  show some (V.int .u64 (qH .u64 ((0:Nat):Int) (j4 x:Nat)))=_;rw[aA]
 simp-implicitDefEqProofs (disch:=omega) only[go_sem];refine cS hi ⟨?_,rfl⟩;simpa[dr,aX] using aA
structure cd where
 cY:Bool
 run:Int
 ha:Int
 fC:Int
 src:Int
 dst:Int
 cf:Int
 cJ:Int
 stay:Bool
def cd.row(l:cd):List V:=[.bool l.cY,.int .i64 l.run,.int .i64 l.ha,.int .i64 l.fC,.int .i64 l.src,.int .i64 l.dst,.int .i64 l.cf,.int .i64 l.cJ,.bool l.stay]
def ob(n:Net)(l:cd):Bool:=decide (0<=l.run)&&match n.runs[l.run.toNat]? with
 |some r=>decide (0<=l.ha)&&(decide (l.ha<l.fC)&&decide (l.fC<r.calls.length))
 |none=>false
theorem aEx(n:Net)(l:cd):bT au IK [.agg n.row,.agg l.row] (fun v=>v=.bool (ob n l)):=by
 refine bP S_ (by simp[Cf]) ?_;simp-implicitDefEqProofs (disch:=omega) only[go_sem,Cf,Net.row,cd.row];refine a5 (fun aa=>?_) (fun aa=>?_);rotate_left
 . simp-implicitDefEqProofs (disch:=omega) only[go_sem]
   rw[ob,decide_eq_false aa];rfl
 simp-implicitDefEqProofs (disch:=omega) only[go_sem];refine a5 (fun af=>?_) (fun af=>?_);rotate_left
 . simp-implicitDefEqProofs (disch:=omega) only[go_sem]
   rw[ob,lX (by omega)];simp
 obtain⟨r,an⟩:∃r,n.runs[l.run.toNat]? =some r:=⟨n.runs[l.run.toNat]'(by omega),by simp⟩;simp-implicitDefEqProofs (disch:=omega) only[go_sem];refine a5 (fun az=>?_) (fun az=>?_);rotate_left
 . simp-implicitDefEqProofs (disch:=omega) only[go_sem]
   rw[ob,an,decide_eq_false az];simp
 simp-implicitDefEqProofs (disch:=omega) only[go_sem];refine a5 (fun bh=>?_) (fun bh=>?_);rotate_left
 . simp-implicitDefEqProofs (disch:=omega) only[go_sem]
   rw[ob,an,decide_eq_false bh];simp
 simp-implicitDefEqProofs (disch:=omega) only[go_sem,an,bM.row];rw[ob,an,decide_eq_true aa,decide_eq_true az,decide_eq_true bh];rfl
def sg(n:Net)(z:Int):Int:=match n.stops[z.toNat]? with|some s=>s.kx|none=>0
def sv(n:Net)(z:Int):Int:=match n.stops[z.toNat]? with|some s=>s.change|none=>0
def Ep(n:Net)(z:Int):Int:=match n.fP[z.toNat]? with|some s=>s.mode|none=>0
def ki(n:Net)(i:Nat):List bG:=match n.runs[i]? with|some r=>r.calls|none=>[]
def pU(n:Net)(cs:List bG):Nat:=cs.foldl (fun z c=>z|||j4 (sg n c.stop)) 0
theorem Yz(n:Net)(cs:List bG):pU n cs<18446744073709551616:=by
 unfold pU;have:∀(cs:List bG)(a:Nat),a<18446744073709551616->cs.foldl (fun z c=>z|||j4 (sg n c.stop)) a<18446744073709551616:=fun cs=>by
  induction cs with
  |nil=>exact fun a h=>h
  |cons c cs bu=>exact fun a h=>bu _ (Ew _ _ h (Ok _))
 exact this cs 0 (by omega)
theorem aQX(n:Net)(cs:List bG)(c:bG):pU n (cs++[c])=pU n cs|||j4 (sg n c.stop):=by
 simp[pU,List.foldl_append]
def qD(n:Net)(l:cd):List bG:=((ki n l.run.toNat).drop l.ha.toNat).take ((l.fC+1).toNat -l.ha.toNat)
theorem R7(n:Net)(l:cd):ob n l=true↔0<=l.run/\∃r,n.runs[l.run.toNat]? =some r/\0<=l.ha/\l.ha<l.fC/\l.fC<r.calls.length:=by
 unfold ob;cases n.runs[l.run.toNat]? with
 |none=>simp
 |some r=>simp
theorem aQ0(n:Net)(l:cd)(he:ob n l=true)(bl:∀r∈n.runs,r.calls.length<=32/\∀c∈r.calls,0<=c.stop/\c.stop<n.stops.length):
 bT au IL [.agg n.row,.agg l.row] (fun v=>v=.int .u64 (pU n (qD n l):Nat)):=by
 obtain⟨a8,r,an,aa,af,az⟩:=(R7 n l).1 he;obtain⟨s1,dq⟩:=bl r (dQ an);have fd:qD n l=(r.calls.drop l.ha.toNat).take ((l.fC+1).toNat -l.ha.toNat):=by simp only[qD,ki,an]
 have Dm:∀c∈qD n l,0<=c.stop/\c.stop<n.stops.length:=fun c ar=>dq c (by
  rw[fd] at ar;exact List.mem_of_mem_drop (List.mem_of_mem_take ar));have eA:∀M,hf 5 (.slice (r.calls.map bG.row) r.tag) (some (.int .i64 l.ha)) (some (.int .i64 (l.fC+1))) none M=some (.slice ((qD n l).map bG.row) (ns r.tag (l.fC+1).toNat (r.calls.map bG.row).length (r.calls.map bG.row).length false)):=fun M=>by
  rw[Xf 5 (r.calls.map bG.row) r.tag .i64 .i64 l.ha (l.fC+1) M aa (by omega) (by rw[eu];omega) (vk (f:=bG.row) (fun _=>rfl) _),fd,List.map_take,List.map_drop]
 generalize ns r.tag (l.fC+1).toNat (r.calls.map bG.row).length (r.calls.map bG.row).length false=ie at eA;have dg:(qD n l).length<=32:=by rw[fd,iS,List.length_drop];omega
 generalize qD n l=cs at Dm eA dg;refine bP Ta (by simp[Cg]) ?_;simp-implicitDefEqProofs (disch:=omega) only[go_sem,Cg,Net.row,cd.row,an,bM.row,eA];refine ej cs (fun i vs M=>vs=[.ptr 0 0,.int .u64 (pU n (cs.take i):Nat),.slice (cs.map bG.row) ie,.int .i64 cs.length,.int .i64 i]/\M=[.box n.row,.box l.row]) ⟨rfl,rfl⟩ ?_ ?_;rotate_left
 . rintro vs M ⟨rfl,rfl⟩
   rw[gB];simp-implicitDefEqProofs (disch:=omega) only[go_sem,db]
 rintro i c vs M ar hi aw ⟨rfl,rfl⟩;obtain⟨t1,t2⟩:=Dm c (dQ ar);obtain⟨s,ak⟩:∃s,n.stops[c.stop.toNat]? =some s:=⟨n.stops[c.stop.toNat]'(by omega),by simp⟩;have a_:sg n c.stop=s.kx:=by simp only[sg,ak]
 have aV:pU n (cs.take (i+1))=pU n (cs.take i)|||j4 s.kx:=by rw[iu,ar];simp[aQX,a_]
 simp-implicitDefEqProofs (disch:=omega) only[go_sem,aw,ar,bG.row,Net.row,cd.row,ak,Stop.row];first|refine b1 (QL _ _ (Yz n (cs.take i))) ?_|refine bV (QL _ _ (Yz n (cs.take i))) ?_
 simp-implicitDefEqProofs (disch:=omega) only[go_sem];rw[<-aV];exact dJ hi rfl ⟨rfl,rfl⟩
end Go.aL.C
namespace Go.aL.C
open Go.aL
theorem sA{α:Type}{l:List α}{i:Nat}{t:α}(h:l[i]? =some t):l.drop i=t::l.drop (i+1):=by
 obtain⟨hi,rfl⟩:=bo.1 h;exact qU hi
def AY(n:Net)(l:cd):Int:=IntKind.i64.wrap (pU n (qD n l):Nat)
def yb(n:Net)(l:cd):Int:=IntKind.i64.wrap (j4 (Ep n (match n.runs[l.run.toNat]? with|some r=>r.ik|none=>0)):Nat)
def AL(n:Net)(l:cd):bf:=⟨l.cf,l.cJ,AY n l,yb n l⟩
def OG(n:Net)(l:cd)(r:bf):bf:=⟨r.cf,l.cJ,qH .i64 r.gf (AY n l),qH .i64 r.eW (yb n l)⟩
def lQ(n:Net)(out:List bf)(l:cd):List bf:=
 if l.stay=true then(match out[out.length -1]? with|some r=>out.set (out.length -1) (OG n l r)|none=>out) else out++[AL n l]
def r3(n:Net):Bool->List cd->List bf->Int×List bf
 |_,[],out=>(0,out)
 |r4,l::ls,out=>if l.cY=true/\ob n l=false then(9,[]) else if l.stay=true/\(l.cY=false∨r4=false) then(19,[])
  else r3 n l.cY ls (if l.cY=true then lQ n out l else out)
def hx(n:Net)(a3:List cd):Int×List bf:=r3 n false a3 []
def Ro:List bf->c4
 |[]=>.nil
 |_::_=>.cx
def y7(L:Mem)(x:V)(out:List bf):Prop:=(x=.slice [] .nil/\out=[])∨∃b ver,x=.aZ (3+b) ver 0 out.length/\L[b]? =some (.arr 4 (out.map bf.row) ver 0)/\0<out.length
def JO(L L':Mem):Prop:=∀(i:Nat)(B:List V),L[i]? =some (a1.box B)->L'[i]? =some (a1.box B)
theorem Fc{L:Mem}{x:V}{out:List bf}(h:y7 L x out)(K:Mem):y7 (L++K) x out:=by
 rcases h with h|⟨b,ver,aa,af,az⟩
 . exact .inl h
 . exact .inr ⟨b,ver,aa,bY af K,az⟩
theorem aK9(L K:Mem):JO L (L++K):=fun i B h=>bY h K
theorem Vq{L:Mem}{b:Nat}{sz ver fz:Nat}{rows:List (List V)}(h:L[b]? =some (.arr sz rows ver fz))(B:a1):JO L (L.set b B):=fun i C hi=>by
 by_cases aj:b=i
 . subst aj;rw[h] at hi;cases hi
 . rw[dv aj];exact hi
theorem aa6{L:Mem}{x:V}{out:List bf}(h:y7 L x out)(A B C:a1)(r:bf)(aw:out.length<=1000):
 ∃b ver L',dX false 4 32 x (.slice [[.int .i64 r.cf,.int .i64 r.cJ,.int .i64 r.gf,.int .i64 r.eW]] .full) (A::B::C::L)=some (.aZ (3+b) ver 0 (out.length+1),A::B::C::L')/\L'[b]? =some (.arr 4 ((out++[r]).map bf.row) ver 0)/\JO L L':=by
 have vj:∀k(a b c:a1)(K:Mem),(a::b::c::K)[3+k]? =K[k]? :=fun k a b c K=>by rw[show 3+k=k+1+1+1 by omega];rfl
 have qi:∀k(a b c d:a1)(K:Mem),(a::b::c::K).set (3+k) d=a::b::c::K.set k d:=fun k a b c d K=>by rw[show 3+k=k+1+1+1 by omega];rfl
 rcases h with⟨rfl,rfl⟩|⟨b,ver,rfl,af,_⟩
 . refine⟨L.length,0,L++[.arr 4 [[.int .i64 r.cf,.int .i64 r.cJ,.int .i64 r.gf,.int .i64 r.eW]] 0 0],?_,eT L _,aK9 _ _⟩
   have hlen:(A::B::C::L).length=3+L.length:=by simp;omega
   simp only[dX,eK,g0,fr,dC,gY,ee,beq_self_eq_true,cond_true,Nat.reduceMul,Nat.reducePow,Nat.reduceLeDiff,decide_true,Bool.true_or,eQ,List.nil_append,List.cons_append];rw[show L.length+1+1+1=3+L.length by omega]
 . refine⟨b,ver+1,L.set b (.arr 4 (out.map bf.row++[r.row]) (ver+1) 0),?_,?_,Vq af _⟩
   . have a7:(A::B::C::L)[3+b]? =some (.arr 4 (out.map bf.row) ver 0):=by rw[vj];exact af
     have:=sp (bytes:=32) (n:=out.length) (r:=r.row) a7 (by simp) rfl (by omega);rw[qi] at this;exact this
   . rw[eB (bo.1 af).1];simp
theorem PY(n:Net)(lu:a1)(x:V)(L:Mem)(out:List bf)(l:cd)(ad:y7 L x out)(he:ob n l=true)(ak:l.stay=true->0<out.length)(vA:out.length<=1000)
 (bl:∀r∈n.runs,(r.calls.length<=32/\∀c∈r.calls,0<=c.stop/\c.stop<n.stops.length)/\0<=r.ik/\r.ik<n.fP.length):
 b9 au DY [.agg l.row,.ptr 0 0,.ptr 2 0] (.box n.row::lu::.box [x]::L) (fun v ah=>v=.tuple []/\∃dh L',ah=.box n.row::lu::.box [dh]::L'/\y7 L' dh (lQ n out l)/\JO L L'):=by
 have NN:=aQ0 n l he fun r an=>(bl r an).1;obtain⟨a8,r,an,aa,af,az⟩:=(R7 n l).1 he;obtain⟨_,fL,iB⟩:=bl r (dQ an);obtain⟨y,aE⟩:∃y,n.fP[r.ik.toNat]? =some y:=⟨n.fP[r.ik.toNat]'(by omega),by simp⟩;have hm:yb n l=IntKind.i64.wrap (j4 y.mode:Nat):=by simp only[yb,an,Ep,aE]
 simp only[Net.row,cd.row] at NN;have vj:∀k(a b c:a1)(K:Mem),(a::b::c::K)[3+k]? =K[k]? :=fun k a b c K=>by rw[show 3+k=k+1+1+1 by omega];rfl
 have qi:∀k(a b c d:a1)(K:Mem),(a::b::c::K).set (3+k) d=a::b::c::K.set k d:=fun k a b c d K=>by rw[show 3+k=k+1+1+1 by omega];rfl
 refine hl S6 (by simp[Cc]) ?_;have tX:(.box n.row::lu::.box [x]::L:Mem).length=3+L.length:=by simp;omega
 have k9:∀(K:Mem)(B:a1),(K++[B])[K.length]? =some B:=fun K B=>by simp
 simp-implicitDefEqProofs (disch:=omega) only[go_sem,Cc,k9,Net.row,cd.row];first|refine b1 (NN) ?_|refine bV (NN) ?_
 simp-implicitDefEqProofs (disch:=omega) only[go_sem,k9,an,bM.row,aE,fo.row];first|refine b1 (QK y.mode) ?_|refine bV (QK y.mode) ?_
 simp-implicitDefEqProofs (disch:=omega) only[go_sem,k9];have aKD:IntKind.i64.wrap (pU n (qD n l):Nat)=AY n l:=rfl;rw[aKD,<-hm];refine ck (fun g=>?_) (fun g=>?_);rotate_left
 . obtain⟨b,ver,L',iN,f8,sY⟩:=aa6 (Fc ad [.box l.row]) (.box n.row) lu (.box [x]) (AL n l) vA
   simp only[AL,cd.row,Net.row] at iN;simp-implicitDefEqProofs (disch:=omega) only[go_sem,k9,iN];refine⟨_,_,rfl,?_,fun i B hi=>sY i B (bY hi _)⟩;have mG:lQ n out l=out++[AL n l]:=by rw[lQ,if_neg (by rw[g];simp)]
   rw[mG];exact .inr ⟨b,ver,by simp,f8,by simp⟩
 have pt:=ak g;rcases ad with⟨_,rfl⟩|⟨b,ver,rfl,af,_⟩
 . cases pt
 obtain⟨fL,pw⟩:∃fL,out[out.length -1]? =some fL:=⟨out[out.length -1],by simp⟩;have mG:lQ n out l=out.set (out.length -1) (OG n l fL):=by rw[lQ,if_pos g,pw]
 rw[mG];have l9:∀(i:Nat)(B:List V),L[i]? =some (a1.box B)->(L++[a1.box l.row])[i]? =some (a1.box B):=fun i B hi=>bY hi _;have CV:=bY af [.box l.row];have zA:=k9 L (.box l.row);simp only[cd.row] at CV zA l9;generalize i3:L++[a1.box [.bool l.cY,.int .i64 l.run,.int .i64 l.ha,.int .i64 l.fC,.int .i64 l.src,.int .i64 l.dst,.int .i64 l.cf,.int .i64 l.cJ,.bool l.stay]]=K at CV zA l9;have mB:=(bo.1 CV).1;have T0:∀X,(K.set b X)[b]? =some X:=fun X=>by rw[eB mB]
 have aHd:∀X Y,(K.set b X).set b Y=K.set b Y:=fun X Y=>List.set_set ..;have iy:(out.map bf.row)[out.length -1]? =some [.int .i64 fL.cf,.int .i64 fL.cJ,.int .i64 fL.gf,.int .i64 fL.eW]:=by rw[gX,pw];rfl
 have aJG:out.length -1<(out.map bf.row).length:=by rw[eu];omega
 have aJ0:∀X,((out.map bf.row).set (out.length -1) X)[out.length -1]? =some X:=fun X=>by rw[eB aJG]
 have aJ1:∀X Y,((out.map bf.row).set (out.length -1) X).set (out.length -1) Y=(out.map bf.row).set (out.length -1) Y:=fun X Y=>List.set_set ..;have h0:decide (out.length -1<out.length)=true:=decide_eq_true (by omega);have vy:∀i v r o,nS (.fq i v r o)=some (.fq i v r o):=fun _ _ _ _=>rfl;simp-implicitDefEqProofs (disch:=omega) only[go_sem,vy,vj,qi,CV,zA,T0,aHd,iy,aJ0,aJ1,h0];refine⟨_,_,rfl,.inr ⟨b,ver,by rw[eR],?_,by rw[eR];exact pt⟩,fun i B hi=>?_⟩
 . rw[T0,List.map_set];rfl
 . exact Vq CV _ i B (l9 i B hi)
theorem aa8(n:Net)(a3:List cd)(c:c4)(aK:n.wf)(ok:f4 n)(ag:a3.length<=1000):
 bT au IH [.agg n.row,.agg [.slice (a3.map cd.row) c]] (fun v=>v=.tuple [.slice ((hx n a3).2.map bf.row) (Ro (hx n a3).2),.int .i64 (hx n a3).1]):=by
 have ar:=Es n aK ok;have bl:∀r∈n.runs,(r.calls.length<=32/\∀c∈r.calls,0<=c.stop/\c.stop<n.stops.length)/\0<=r.ik/\r.ik<n.fP.length:=fun r an=>by
  obtain⟨i,hi⟩:=ir an;have h:=ok.ok.runs.2 i r hi;refine⟨⟨h.2.2.2.2.2.1.2.1,fun c ar=>?_⟩,h.2.2.2.2.1⟩;obtain⟨k,ao⟩:=ir ar;exact(h.2.2.2.2.2.1.2.2 k c ao).1
 simp only[Net.row] at ar;refine bP S7 (by simp[Cb]) ?_;simp-implicitDefEqProofs (disch:=omega) only[go_sem,Cb,Net.row];first|refine b1 (ar) ?_|refine bV (ar) ?_
 simp-implicitDefEqProofs (disch:=omega) only[go_sem];refine ej a3 (fun i vs N=>∃r4 out x L,vs=[.ptr 0 0,.ptr 2 0,.fn DY [.ptr 0 0,.ptr 2 0],.bool r4,.slice (a3.map cd.row) c,.int .i64 a3.length,.int .i64 i]/\
  N=.box n.row::.box [.slice (a3.map cd.row) c]::.box [x]::L/\y7 L x out/\(r4=true->0<out.length)/\out.length<=i/\r3 n r4 (a3.drop i) out=hx n a3)
  ⟨false,[],_,[],rfl,rfl,.inl ⟨rfl,rfl⟩,(by intro h;cases h),(by simp),rfl⟩ ?_ ?_;rotate_left
 . rintro vs N ⟨r4,out,x,L,rfl,rfl,ad,an,aA,gk⟩
   rw[List.drop_length] at gk;simp-implicitDefEqProofs (disch:=omega) only[go_sem,db];have aD:hx n a3=(0,out):=gk.symm;rw[aD];rcases ad with⟨rfl,rfl⟩|⟨b,ver,rfl,af,az⟩
   . simp-implicitDefEqProofs (disch:=omega) only[go_sem,↓bm 53]
     rfl
   . have vj:∀k(a b c:a1)(K:Mem),(a::b::c::K)[3+k]? =K[k]? :=fun k a b c K=>by rw[show 3+k=k+1+1+1 by omega];rfl
     have ig:decide (3+b<0)=false:=decide_eq_false (e8 _);have aV:(out.map bf.row).take out.length=out.map bf.row:=g_ (by simp);have aH1:Ro out=.cx:=by cases out with
      |nil=>cases az
      |cons _ _=>rfl
     simp-implicitDefEqProofs (disch:=omega) only[go_sem,↓bm 53,vj,af,ig,aV,aH1]
 rintro i l vs N ql hi aw ⟨r4,out,x,L,rfl,rfl,ad,an,aA,gk⟩;have aRC:l.row=[.bool l.cY,.int .i64 l.run,.int .i64 l.ha,.int .i64 l.fC,.int .i64 l.src,.int .i64 l.dst,.int .i64 l.cf,.int .i64 l.cJ,.bool l.stay]:=rfl;rw[sA ql] at gk;have hex:=aEx n l;simp only[Net.row,cd.row] at hex;have k9:∀(K:Mem)(B:a1),(K++[B])[K.length]? =some B:=fun K B=>by simp
 have is:∀(K:Mem)(B X:a1),(K++[B]).set K.length X=K++[X]:=fun K B X=>by simp
 simp-implicitDefEqProofs (disch:=omega) only[go_sem,aw,ql,cd.row,Net.row,k9,is];rw[r3] at gk;refine ck (fun aT=>?_) (fun aT=>?_);rotate_left
 . rw[if_neg (by rw[aT];simp)] at gk
   simp-implicitDefEqProofs (disch:=omega) only[go_sem,k9,aT];refine ck (fun bJ=>?_) (fun bJ=>?_)
   . rw[if_pos ⟨bJ,.inl aT⟩] at gk
     simp-implicitDefEqProofs (disch:=omega) only[go_sem,k9,aT];rw[<-gk];rfl
   . rw[if_neg (by rw[bJ];simp),if_neg (by rw[aT];simp),aT] at gk
     simp-implicitDefEqProofs (disch:=omega) only[go_sem,Net.row,k9,aT];refine cS hi ⟨false,out,x,L++[.box l.row],rfl,?_,Fc ad _,(by intro h;cases h),by omega,gk⟩;simp[cd.row,aT]
 simp-implicitDefEqProofs (disch:=omega) only[go_sem,k9,aT];simp only[aT] at hex;first|refine b1 (hex) ?_|refine bV (hex) ?_
 simp-implicitDefEqProofs (disch:=omega) only[go_sem];refine ck (fun a2=>?_) (fun a2=>?_);rotate_left
 . rw[if_pos ⟨aT,a2⟩] at gk
   simp-implicitDefEqProofs (disch:=omega) only[go_sem];rw[<-gk];rfl
 rw[if_neg (by rw[a2];simp)] at gk;simp-implicitDefEqProofs (disch:=omega) only[go_sem,k9,aT];refine ck (fun bJ=>?_) (fun bJ=>?_)
 . simp-implicitDefEqProofs (disch:=omega) only[go_sem,k9,aT]
   refine ck (fun c8=>?_) (fun c8=>?_);rotate_left
   . rw[if_pos ⟨bJ,.inr c8⟩] at gk
     simp-implicitDefEqProofs (disch:=omega) only[go_sem];rw[<-gk];rfl
   have MA:r3 n true (a3.drop (i+1)) (lQ n out l)=hx n a3:=by
    rw[if_neg (by rw[aT,c8];simp),if_pos aT,aT] at gk;exact gk
   have qb:=PY n (.box [.slice (a3.map cd.row) c]) x (L++[.box l.row]) out l (Fc ad _) a2 (fun _=>an c8) (by omega) bl;simp only[Net.row,cd.row,aT] at qb;simp-implicitDefEqProofs (disch:=omega) only[go_sem,k9,aT];refine ew qb ?_;rintro v ah ⟨rfl,dh,L',rfl,vH,ao⟩;have aj:=ao L.length _ (k9 L _);simp-implicitDefEqProofs (disch:=omega) only[go_sem,Net.row,aj,aT];refine cS hi ⟨true,lQ n out l,dh,L',rfl,rfl,vH,fun _=>?_,?_,MA⟩
   . unfold lQ
     rw[if_pos bJ];split
     . rw[eR];exact an c8
     . exact an c8
   . unfold lQ
     rw[if_pos bJ];split
     . rw[eR];omega
     . omega
 . have MA:r3 n true (a3.drop (i+1)) (lQ n out l)=hx n a3:=by
    rw[if_neg (by rw[bJ];simp),if_pos aT,aT] at gk;exact gk
   have qb:=PY n (.box [.slice (a3.map cd.row) c]) x (L++[.box l.row]) out l (Fc ad _) a2 (fun h=>by rw[bJ] at h;cases h) (by omega) bl;simp only[Net.row,cd.row,aT] at qb;simp-implicitDefEqProofs (disch:=omega) only[go_sem,k9,aT];refine ew qb ?_;rintro v ah ⟨rfl,dh,L',rfl,vH,ao⟩;have aj:=ao L.length _ (k9 L _);simp-implicitDefEqProofs (disch:=omega) only[go_sem,Net.row,aj,aT];refine cS hi ⟨true,lQ n out l,dh,L',rfl,rfl,vH,fun _=>?_,?_,MA⟩
   . unfold lQ
     rw[if_neg (by rw[bJ];simp)];simp
   . unfold lQ
     rw[if_neg (by rw[bJ];simp)];rw[dz];simp;omega
end Go.aL.C
namespace Go.aL.C
open Go.aL
theorem Sg(a b d:Int)(a9:ev a)(aj:ev b)(aw:ev d)(a8:0<=d):bT au In [.int .i64 a,.int .i64 b,.int .i64 d] (fun v=>v=.bool (decide (b -a<=d))):=by
 obtain⟨bW,b8⟩:=a9;obtain⟨c2,dw⟩:=aj;obtain⟨d1,d2⟩:=aw;refine bP SK (by simp[BT]) ?_;simp-implicitDefEqProofs (maxSteps:=3000000) (disch:=omega) only[go_sem,BT,J6]
 repeat' (refine A2 (fun h=>?_) (fun h=>?_))
 all_goals
  rw[Bool.eq_iff_iff];simp only[decide_eq_true_eq,Pd,true_iff];omega
def wW(f:bp)(s:Int):Int:=if 0<f.pF/\f.pF<s then f.pF else s
theorem Sb(f:bp)(s:Int):bT au Ii [.agg f.row,.int .i64 s] (fun v=>v=.int .i64 (wW f s)):=by
 refine bP SE (by simp[BN]) ?_;simp-implicitDefEqProofs (disch:=omega) only[go_sem,BN,bp.row];refine a5 (fun h=>?_) (fun h=>?_)
 . simp-implicitDefEqProofs (disch:=omega) only[go_sem]
   refine a5 (fun af=>?_) (fun af=>?_)
   . simp-implicitDefEqProofs (disch:=omega) only[go_sem,wW]
     rw[if_pos ⟨h,af⟩]
   . simp-implicitDefEqProofs (disch:=omega) only[go_sem,wW]
     rw[if_neg (fun e=>af e.2)]
 . simp-implicitDefEqProofs (disch:=omega) only[go_sem,wW]
   rw[if_neg (fun e=>h e.1)]
theorem Px(n:Int):ev (IntKind.i64.wrap n):=by rw[jG,ev];split<;>omega
def part(l:List bf)(i k:Nat):List bf:=(l.drop i).take (k+1 -i)
theorem Ot{l:List bf}{i k:Nat}(h:k<l.length):(part l i k).length=k+1 -i:=by simp[part];omega
theorem Kb{l:List bf}{i k:Nat}{r:bf}(h:r∈part l i k):r∈l:=List.mem_of_mem_drop (List.mem_of_mem_take h)
theorem aNe(l:List bf)(i k:Nat):((l.map bf.row).drop i).take (k+1 -i)=(part l i k).map bf.row:=by rw[part,List.map_take,List.map_drop]
def io(f:bp)(p:ds)(l:List bf)(i:Nat):Int:=
 match l[i -1]?,l[i]? with
 |some a,some b=>if 0<i/\b.cf -a.cJ<=f.within then max 0 (p.hv -f.lF) else p.hv
 |_,_=>p.hv
theorem O9{f:bp}{p:ds}{l:List bf}{i:Nat}(h:0<=p.hv/\p.hv<=1000000)(aw:0<=f.lF):0<=io f p l i/\io f p l i<=1000000:=by
 unfold io;split
 . split<;>omega
 . omega
theorem Se(f:bp)(p:ds)(l:List bf)(c:c4)(i:Nat)(aD:f.wf)(b7:f.ia)(ay:0<=p.hv/\p.hv<=1000000)(ag:∀r∈l,r.wf)(hi:i<l.length)(hlen:l.length<=maxLen):
 bT au Il [.agg f.row,.agg p.row,.slice (l.map bf.row) c,.int .i64 i] (fun v=>v=.int .i64 (io f p l i)):=by
 have hm:maxLen=9223372036854775807:=by rfl
 obtain⟨d1,d2⟩:=b7.lF;refine bP SI (by simp[BR]) ?_;obtain⟨b,aj⟩:∃b,l[i]? =some b:=⟨l[i],by simp⟩;obtain⟨a,a9⟩:∃a,l[i -1]? =some a:=⟨l[i -1],by simp⟩;have aV:io f p l i=if 0<i/\b.cf -a.cJ<=f.within then max 0 (p.hv -f.lF) else p.hv:=by simp only[io,a9,aj]
 simp-implicitDefEqProofs (disch:=omega) only[go_sem,BR,bp.row,ds.row];refine a5 (fun aa=>?_) (fun aa=>?_);rotate_left
 . simp-implicitDefEqProofs (disch:=omega) only[go_sem,aV]
   rw[if_neg (fun e=>by omega)]
 simp-implicitDefEqProofs (disch:=omega) only[go_sem,a9,aj,bf.row];first|refine b1 (Sg _ _ _ (ag a (dQ a9)).2.1 (ag b (dQ aj)).1 aD.2.2.2.1 b7.within.1) ?_|refine bV (Sg _ _ _ (ag a (dQ a9)).2.1 (ag b (dQ aj)).1 aD.2.2.2.1 b7.within.1) ?_
 simp-implicitDefEqProofs (disch:=omega) only[go_sem];refine a5 (fun af=>?_) (fun af=>?_)
 . simp-implicitDefEqProofs (disch:=omega) only[go_sem,aV]
   rw[if_pos ⟨by omega,af⟩]
 . simp-implicitDefEqProofs (disch:=omega) only[go_sem,aV]
   rw[if_neg (fun e=>af e.2)]
structure b_ where
 product:Int
 first:Int
 last:Int
 hv:Int
 deriving DecidableEq
def b_.row(t:b_):List V:=[.int .i64 t.product,.int .i64 t.first,.int .i64 t.last,.int .i64 t.hv]
def b_.wf(t:b_):Prop:=ev t.product/\ev t.first/\ev t.last/\ev t.hv
def g8(l:List b_):Int:=(l.map b_.hv).sum
def sd(f:bp)(n:Nat):Int:=if(k5 f).2≠0 then 20 else if 8<n then 33 else 0
theorem Sf(f:bp)(l:List bf)(c:c4)(aD:f.wf):bT au Im [.agg f.row,.slice (l.map bf.row) c] (fun v=>v=.int .i64 (sd f l.length)):=by
 refine bP SJ (by simp[BS]) ?_;simp-implicitDefEqProofs (disch:=omega) only[go_sem,BS,bp.row];first|refine b1 (EB f aD) ?_|refine bV (EB f aD) ?_
 simp-implicitDefEqProofs (disch:=omega) only[go_sem,j5];refine a5 (fun aa=>?_) (fun aa=>?_);rotate_left
 . simp-implicitDefEqProofs (disch:=omega) only[go_sem,sd]
   rw[if_pos aa]
 simp-implicitDefEqProofs (disch:=omega) only[go_sem];refine a5 (fun af=>?_) (fun af=>?_)
 . simp-implicitDefEqProofs (disch:=omega) only[go_sem,sd]
   rw[if_neg (by simp[aa]),if_pos (by omega)]
 . simp-implicitDefEqProofs (disch:=omega) only[go_sem,sd]
   rw[if_neg (by simp[aa]),if_neg (by omega)]
end Go.aL.C
