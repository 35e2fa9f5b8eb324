/- A part of the proof of TopAgreement: the abstract machine, the code that the statement reaches, the contracts of its functions. Part 4. The text is made short by a program. -/
import Derived.Test.YtbndjigedmpplaaGreatG3
set_option linter.all false
set_option maxHeartbeats 8000000
set_option maxRecDepth 10000
open BitVec renaming ofInt->fF
open Bool renaming and_eq_true->bL,and_self->cR,false->ad,false_eq_true->gX,noConfusion->kI,not_eq_true'->hM,or_eq_true->ln,true->U
open Int renaming le_refl->fS,toNat_natCast->dU,toNat_of_nonneg->fr
open List renaming append_assoc->cS,append_nil->ez,cons_append->fG,drop_zero->hN,ext_getElem?->lp,getElem?_append_left->et,getElem?_append_right->fH,getElem?_cons_zero->hg,getElem?_drop->h2,getElem?_eq_getElem->cG,getElem?_eq_none->jd,getElem?_eq_some_iff->az,getElem?_map->dK,getElem?_of_mem->eb,getElem?_set_ne->bo,getElem?_set_self->bY,getElem?_take_of_lt->fT,length_append->b0,length_cons->cc,length_drop->kJ,length_eq_zero_iff->lY,length_filter_le->lZ,length_map->cz,length_nil->eu,length_set->cW,length_singleton->hP,length_take->fh,map_append->iL,map_cons->gg,mem_append->dv,mem_append_left->je,mem_append_right->iq,mem_cons->fI,mem_cons_of_mem->fs,mem_cons_self->ft,mem_filter->jf,mem_map->gY,mem_of_getElem?->bI,mem_range->hh,mem_singleton->dV,nil_append->eH,not_mem_nil->gh,range->b8,replicate->d_,set_append->l1,set_set->h3,take_add_one->gM,take_length->f_,take_of_length_le->eS
open Nat renaming add_zero->g_,beq->dG,le_refl->bk,le_trans->fJ,lt_or_ge->eT,mul_le_mul_right->hj,not_lt_zero->c9,sub_self->hA,zero_add->dm,zero_le->c_
open Ne renaming symm->cA
open Option renaming map_eq_some_iff->cL,map_some->jE,none->ag,some->I
open Option.some renaming inj->mN,injEq->aC
open Prod.mk renaming injEq->dh
namespace Go.ao.C
open Go.ao
section
variable{n:ak}{q:aG}{l x:aq}
theorem AJ{t:Int}{r:aV}{i:Nat}:∀{a:List aZ}{k:Nat},x∈kS n q l t r i a k↔∃j c,a[j]? =I c/\m1 n l t r i (k+j) c=U/\x∈fw n q l i (k+j)
 |[],k=>⟨λh=>(gh h).elim,λ⟨j,c,h,_⟩=>by simp at h⟩
 |c::a,k=>by
  show x∈pA n q l t r i k c++kS n q l t r i a (k+1)↔_;rw[dv,AJ];constructor
  . rintro(h|⟨j,d,b,e,f⟩)
    . unfold pA at h;split at h
      . rename_i g;exact⟨0,c,rfl,g,h⟩
      . cases h
    . exact⟨j+1,d,b,by rwa [show k+(j+1)=k+1+j by omega],by rwa [show k+(j+1)=k+1+j by omega]⟩
  . rintro⟨j,d,b,e,f⟩;cases j with
    |zero=>cases b;exact .inl (by unfold pA;rw[g_] at e f;rw[e];exact f)
    |succ j=>exact .inr ⟨j,d,b,by rwa [show k+1+j=k+(j+1) by omega],by rwa [show k+1+j=k+(j+1) by omega]⟩
theorem Jy{t:Int}:∀{b:List aV}{i:Nat},x∈lA n q l t b i↔∃j r,b[j]? =I r/\x∈kS n q l t r (i+j) r.aO 0
 |[],i=>⟨λh=>(gh h).elim,λ⟨j,c,h,_⟩=>by simp at h⟩
 |r::b,i=>by
  show x∈kS n q l t r i r.aO 0++lA n q l t b (i+1)↔_;rw[dv,Jy];constructor
  . rintro(h|⟨j,d,a,e⟩)
    . exact⟨0,r,rfl,h⟩
    . exact⟨j+1,d,a,by rwa [show i+(j+1)=i+1+j by omega]⟩
  . rintro⟨j,d,a,e⟩;cases j with
    |zero=>cases a;exact .inl e
    |succ j=>exact .inr ⟨j,d,a,by rwa [show i+1+j=i+(j+1) by omega]⟩
def xy{t:Int}:x∈gD n q l t↔∃i k r c,n.ar[i]? =I r/\r.aO[k]? =I c/\m1 n l t r i k c=U/\x∈fw n q l i k:=by
 unfold gD;rw[Jy];constructor
 . rintro⟨i,r,a,f⟩;obtain⟨k,c,b,d,e⟩:=AJ.1 f;simp only[dm] at*;exact⟨i,k,r,c,a,b,d,e⟩
 . rintro⟨i,k,r,c,a,b,d,e⟩;exact⟨i,r,a,AJ.2 ⟨k,c,b,by simpa only[dm] using d,by simpa only[dm] using e⟩⟩
def xz:x∈jT n q l↔∃p∈n.bw,nx q l p=U/\x=oh l p:=by
 have:∀a:List bb,x∈nv q l a↔∃p∈a,nx q l p=U/\x=oh l p:=λa=>by
  induction a with
  |nil=>exact⟨λh=>(gh h).elim,λ⟨p,h,_⟩=>(gh h).elim⟩
  |cons p a g=>
   show x∈qi q l p++nv q l a↔_;rw[dv,g];unfold qi;constructor
   . rintro(h|⟨d,b,c⟩)
     . split at h
       . rename_i f;exact⟨p,ft ..,f,dV.1 h⟩
       . cases h
     . exact⟨d,fs _ b,c⟩
   . rintro⟨d,b,c,e⟩;rcases fI.1 b with rfl|b
     . exact .inl (by rw[c];exact dV.2 e)
     . exact .inr ⟨d,b,c,e⟩
 exact this _
def AK:x∈iK n l↔∃p∈n.bj,ik n l p=U/\x∈fR n l p.dst.toNat 0 U l.place.bl:=by
 have:∀a:List b1,x∈kD n l a↔∃p∈a,ik n l p=U/\x∈fR n l p.dst.toNat 0 U l.place.bl:=λa=>by
  induction a with
  |nil=>exact⟨λh=>(gh h).elim,λ⟨p,h,_⟩=>(gh h).elim⟩
  |cons p a g=>
   show x∈mE n l p++kD n l a↔_;rw[dv,g];unfold mE;constructor
   . rintro(h|⟨d,b,c⟩)
     . split at h
       . rename_i f;exact⟨p,ft ..,f,h⟩
       . cases h
     . exact⟨d,fs _ b,c⟩
   . rintro⟨d,b,c,e⟩;rcases fI.1 b with rfl|b
     . exact .inl (by rw[c];exact e)
     . exact .inr ⟨d,b,c,e⟩
 exact this _
def Ch(ok:di n)(z:Int):0<=lm n z/\lm n z<=15:=by
 unfold lm;split
 . rename_i s ae;exact(ok.ok.aB.2 _ s ae).2.1
 . omega
def JG(ok:di n)(z:Int):0<=oX n z/\oX n z<=7:=by
 unfold oX;split
 . rename_i s ae;exact(ok.ok.ey.2 _ s ae).2.1
 . omega
def xM{a b:Int}{k:Nat}(h:k<=62)(c:0<=a/\a<((2^k:Nat):Int))(d:0<=b/\b<((2^k:Nat):Int)):0<=lN .i64 a b/\lN .i64 a b<((2^k:Nat):Int):=by
 have i:2^k<=2^62:=Nat.pow_le_pow_right J h;have e:∀x:Int,0<=x->x<((2^k:Nat):Int)->(fF 64 x).toNat=x.toNat:=λx f g=>by rw[BitVec.toNat_ofInt,Int.emod_eq_of_lt f J]
 have g:(fF 64 a|||fF 64 b).toNat<2^k:=by rw[BitVec.toNat_or,e a c.1 c.2,e b d.1 d.2];exact Nat.or_lt_two_pow J J
 show 0<=IntKind.i64.wrap _/\IntKind.i64.wrap _<_;rw[kH _ J (by show(((fF 64 a|||fF 64 b).toNat:Nat):Int)<=_;omega)];show 0<=(((fF 64 a|||fF 64 b).toNat:Nat):Int)/\(((fF 64 a|||fF 64 b).toNat:Nat):Int)<_;omega
def Km{z:Int}{k:Nat}(a:0<=z)(h:z<k):0<=((2^z.toNat:Nat):Int)/\((2^z.toNat:Nat):Int)<((2^k:Nat):Int):=by have:2^z.toNat<2^k:=Nat.pow_lt_pow_right J J;exact⟨Int.natCast_nonneg _,Int.ofNat_lt.2 this⟩
def gC.hz{r:aI}(h:gC r){z:Int}(a:0<=z/\z<=15):gC (r.hz z):=
 ⟨xM (k:=16) J h.1 (Km a.1 J),h.2⟩
def gC.fA{r:aI}(h:gC r){z:Int}(a:0<=z/\z<=7):gC (r.fA z):=
 ⟨h.1,xM (k:=8) J h.2 (Km a.1 J)⟩
theorem L1{i b:Nat}{aT:Bool}{B:aZ}:∀{cs:List aZ}{k:Nat}{rd:aI}{j:Nat}{c:aZ},cs[j]? =I c->(c.ct||mF n i ((k+j:Nat):Int))=U->∃d,jw l i b aT B c (k+j) d∈il n l i b aT B cs k rd
 |[],_,_,_,_,h,_=>by simp at h
 |c::cs,k,rd,0,e,h,a=>by cases h;exact⟨_,je _ (by rw[g_] at a⊢;rw[a];exact dV.2 rfl)⟩
 |c::cs,k,rd,j+1,e,h,a=>by obtain⟨d,f⟩:=L1 (b:=b) (aT:=aT) (B:=B) (cs:=cs) (k:=k+1) (rd:=rd.at n c) (j:=j) h (by rwa [show k+1+j=k+(j+1) by omega]);exact⟨d,iq _ (by rwa [show k+(j+1)=k+1+j by omega])⟩
def LQ{i b k:Nat}{aT:Bool}{r:aV}{B c:aZ}{rd:aI}(f:n.ar[i]? =I r)(d:r.aO[b]? =I B)(e:r.aO[k]? =I c)(m:b<k)(g:(c.ct||mF n i k)=U):∃a,jw l i b aT B c k a∈fR n l i b aT rd:=by simp only[fR,f,d];obtain⟨a,h⟩:=L1 (n:=n) (l:=l) (i:=i) (b:=b) (aT:=aT) (B:=B) (cs:=r.aO.drop (b+1)) (k:=b+1) (rd:=pa n r B rd) (j:=k -(b+1)) (c:=c) (by rw[h2,show b+1+(k -(b+1))=k by omega];exact e) (by rwa [show b+1+(k -(b+1))=k by omega]);rw[show b+1+(k -(b+1))=k by omega] at h;exact⟨a,h⟩
theorem LX(ok:di n){i b:Nat}{aT:Bool}{B:aZ}:∀{e:List aZ}{k:Nat}{d:aI},gC d->∀x∈il n l i b aT B e k d,gC x.place.bl
 |[],_,_,_,x,a=>by cases a
 |c::e,k,d,h,x,a=>by
  have f:gC (d.at n c):=h.hz (Ch ok _);rcases dv.1 a with a|a
  . split at a
    . rw[dV.1 a];exact f
    . cases a
  . exact LX ok f x a
def LO(ok:di n){i b:Nat}{aT:Bool}{c:aI}(h:gC c):∀x∈fR n l i b aT c,gC x.place.bl:=by
 intro x a;unfold fR at a;split at a
 . split at a
   . exact LX ok ((h.fA (JG ok _)).hz (Ch ok _)) x a
   . cases a
 . cases a
def QZ(ok:di n){i k:Nat}:∀x∈fw n q l i k,gC x.place.bl:=by
 intro x a;unfold fw at a;split at a
 . cases a
 . split at a
   . exact LO ok ⟨⟨fS 0,by show(0:Int)<65536;omega⟩,fS 0,by show(0:Int)<256;omega⟩ x a
   . cases a
end
structure l7(n:ak)(q:aG)(d:Int->Nat)(l:aq):Prop where
 c4:gN n q d l
 pE:td n q d l
 bf:∀r∈l.bf,gC r
 bl:l.place.cP=1->gC l.place.bl
 Cb:l.bD<=14400*(l.aY+if l.place.cP=2 then 1 else 0)
theorem Uj(l:aq)(t:Int):(iD l t).bD=l.bD:=by
 unfold iD;split
 . split<;>rfl
 . rfl
section
variable{n:ak}{q:aG}{d:Int->Nat}
def y8(E:Env n q d){l:aq}{t:Int}(u:0<=l.aY/\l.aY<=q.aY)(p:∀r∈l.bf,gC r)(v:l.bD<=14400*(l.aY+1))(o:∀x∈gD n q l t,gN n q d x):∀x∈gD n q l t,l7 n q d x:=by
 intro x g;have s:=o x g;obtain⟨i,k,r,c,e,f,b,a⟩:=xy.1 g;simp only[m1,bL,hM] at b;refine⟨s,SU E u e f b.1 b.2.1 x a,by rw[wJ x a];exact p,λ_=>QZ E.ok x a,?_⟩;unfold fw at a;split at a
 . cases a
 . simp only[gR,e,f] at a;obtain⟨h,j,_,m⟩:=ro x a;rw[h,j,m,Uj,vc,ax J];omega
def Ms(E:Env n q d){l:aq}(e:∀r∈l.bf,gC r)(k:l.bD<=14400*l.aY)(c:∀x∈jT n q l,gN n q d x):∀x∈jT n q l,l7 n q d x:=by intro x b;have g:=c x b;obtain⟨p,h,j,rfl⟩:=xz.1 b;obtain⟨i,f⟩:=eb h;obtain⟨⟨_,_,ae⟩,_⟩:=E.ok.ok.sO i p f;refine⟨g,λa=>aJ a (by show(2:Int)≠1;omega),e,λa=>aJ a (by show(2:Int)≠1;omega),?_⟩;show l.bD+p.bs<=14400*(l.aY+if(2:Int)=2 then 1 else 0);rw[aF rfl];omega
def AT(E:Env n q d){l:aq}(h:l7 n q d l):∀x∈fO n q l,l7 n q d x:=by
 have c:=Z1 E h.c4;have g:=h.Cb;unfold fO at c⊢;split at c
 . rename_i f;rw[aF f];rw[f,ax J,Int.add_zero] at g;intro x a;rcases dv.1 a with a|a
   . obtain⟨p,_,ae,j⟩:=AK.1 a;obtain⟨o,s,_,t⟩:=ro x j;refine⟨c x (je _ a),SV E h.c4 h.pE f x a,by rw[yc x j];exact h.bf,λ_=>LO E.ok (h.bl f) x j,?_⟩;rw[o,s,t,ax J];omega
   . unfold kz at a;split at a
     . rename_i u;have k:∀y∈i2 n q (gk l) (l.aM+dS n l.place.stop),gN n q d y:=λy b=>c y (iq _ (by unfold kz;rw[aF u];exact b));have m:∀r∈(gk l).bf,gC r:=λr v=>(fI.1 v).elim (λe=>e▸h.bl f) (h.bf r);rcases dv.1 a with a|a
       . exact y8 (l:=gk l) E h.c4.aY m (by show l.bD<=14400*(l.aY+1);omega) (λy b=>k y (je _ b)) x a
       . exact Ms (l:=gk l) E m g (λy b=>k y (iq _ b)) x a
     . cases a
 . rename_i f;rw[ax f];split at c
   . rename_i i;rw[aF i];rw[aF i] at g;exact y8 E h.c4.aY h.bf g c
   . rename_i i;rw[ax i];rw[ax i,Int.add_zero] at g;intro x a;rcases dv.1 a with a|a
     . exact y8 E h.c4.aY h.bf J (λy b=>c y (je _ b)) x a
     . exact Ms E h.bf g (λy b=>c y (iq _ b)) x a
def Lh(E:Env n q d):l7 n q d (f0 q):=
 ⟨BI E,λa=>aJ a (by show(0:Int)≠1;omega),λ_ h=>(gh h).elim,λa=>aJ a (by show(0:Int)≠1;omega),by show(0:Int)<=14400*(0+if(0:Int)=2 then 1 else 0);rw[ax J];omega⟩
def ta(A:List aq):Prop:=A.Pairwise λa b=>a.place=b.place->¬lr a b
def nn(A:List aq):Nat:=A.countP λl=>decide (l.place.cP=1)
def ny(A:List aq):Nat:=A.countP λl=>decide (l.place.cP=2)
def dD(l:aq):Nat:=if l.place.cP=2 then 1 else 11
theorem JP:∀(N:Nat)(l:List Nat),l.Nodup->(∀x∈l,x<N)->l.length<=N
 |0,l,_,h=>by
  cases l with
  |nil=>exact bk _
  |cons x l=>exact aJ (h x (ft ..)) (c9 _)
 |N+1,l,c,h=>by
  have d:=JP N (l.filter λx=>!decide (x=N)) (c.filter _) λx e=>by
   obtain⟨a,b⟩:=jf.1 e;have:=h x a;have:x≠N:=by simpa using b
   omega
  have f:=List.nodup_iff_count.1 c N;have g:=List.length_eq_countP_add_countP (λx=>decide (x=N)) (l:=l);rw[<-List.countP_eq_length_filter] at d;have i:l.count N=l.countP λx=>decide (x=N):=by rw[List.count_eq_countP];exact List.countP_congr λx _=>by simp
  have j:(l.countP λx=>!decide (x=N))=l.countP λx=>decide ¬(decide (x=N))=U:=List.countP_congr λx _=>by simp
  omega
def KL(E:Env n q d){A:List aq}(s:∀l∈A,l7 n q d l)(r:ta A):nn A<=1143085230:=by
 have K:=E.aY;have M:=P8 E;unfold nn;rw[List.countP_eq_length_filter,<-cz (λl:aq=>((rV n q).idxOf l.place*9+l.aY.toNat)*86401+l.bD.toNat)];have mem:∀l∈A.filter (λl=>decide (l.place.cP=1)),l7 n q d l/\l.place.cP=1:=λl f=>⟨s l (jf.1 f).1,of_decide_eq_true (jf.1 f).2⟩;have g:∀l,l7 n q d l->l.aY.toNat<9/\l.bD.toNat<86401:=λl h=>by have:=h.c4.aY;have:=h.c4.bD;omega
 refine JP _ _ ?_ ?_
 . rw[List.Nodup,List.pairwise_map];refine List.Pairwise.imp_of_mem ?_ (r.filter _);intro a b t v u L;obtain⟨c,k⟩:=mem a t;obtain⟨e,y⟩:=mem b v;obtain⟨D,F⟩:=g a c;obtain⟨N,O⟩:=g b e;have G:a.bD.toNat=b.bD.toNat:=J;have H:a.aY.toNat=b.aY.toNat:=J;have m:(rV n q).idxOf a.place=(rV n q).idxOf b.place:=J;have B:=c.pE.mem k;have C:=e.pE.mem y;have i:a.place=b.place:=by
    have o:=List.getElem_idxOf (List.idxOf_lt_length_iff.2 B);have p:=List.getElem_idxOf (List.idxOf_lt_length_iff.2 C);rw[<-o,<-p];simp only[m]
   have:=c.c4.aY;have:=e.c4.aY;have:=c.c4.bD;have:=e.c4.bD;exact u i ⟨Int.le_of_eq (c.c4.LI e.c4 i k),J,J⟩
 . intro x w;obtain⟨l,f,rfl⟩:=gY.1 w;obtain⟨j,z⟩:=mem l f;obtain⟨D,F⟩:=g l j;have:=List.idxOf_lt_length_iff.2 (j.pE.mem z);omega
theorem D7{ap:aN}(m:j7 ap)(n:ap.Ok):∀{g A Q c e:List aq},eI ap A Q g c e->(∀o∈A,∀r∈o.bf,gC r)->(∀o∈g,∀r∈o.bf,gC r)->ta A->ta c
 |[],A,Q,c,e,h,_,_,d=>by obtain⟨rfl,rfl⟩:=h;exact d
 |l::g,A,Q,c,e,⟨w,x,i,p⟩,j,f,d=>by
  refine D7 m n p (i.all j (f l (ft ..))) (λo u=>f o (fs _ u)) ?_;rcases i with⟨rfl,rfl,_⟩|⟨rfl,rfl,t⟩
  . exact d
  . refine List.pairwise_append.2 ⟨d,List.pairwise_singleton _ _,λa k b s=>?_⟩;rw[dV.1 s];exactλv q=>t a k v q (Ta m n (j a k) (f l (ft ..)))
theorem C2{ap:aN}:∀{b A Q c d:List aq},eI ap A Q b c d->(∀x∈b,x.place.cP=1∨x.place.cP=2)->c5 dD d+11*nn A<=c5 dD Q+11*nn c+ny b
 |[],A,Q,c,d,h,_=>by obtain⟨rfl,rfl⟩:=h;omega
 |l::b,A,Q,c,d,⟨n,o,j,k⟩,a=>by
  have f:=C2 k λx m=>a x (fs _ m);have e:ny (l::b)=ny b+if l.place.cP=2 then 1 else 0:=by unfold ny;rw[List.countP_cons];simp
  rw[e];rcases j with⟨rfl,rfl,_⟩|⟨rfl,rfl,_⟩
  . omega
  . have g:nn (A++[l])=nn A+if l.place.cP=1 then 1 else 0:=by unfold nn;rw[List.countP_append,List.countP_cons,List.countP_nil];simp
    have i:c5 dD (Q++[l])=c5 dD Q+dD l:=by rw[vX];simp[c5]
    rw[g,i] at f;rcases a l (ft ..) with a|a
    . have:dD l=11:=by unfold dD;rw[ax J]
      rw[aF a] at f;rw[ax J];omega
    . have:dD l=1:=by unfold dD;rw[aF a]
      rw[ax J] at f;rw[aF a];omega
end
section
variable{n:ak}{q:aG}{d:Int->Nat}
theorem L2{l:aq}{i b:Nat}{aT:Bool}{B:aZ}:∀(a:List aZ)(k:Nat)(d:aI),(il n l i b aT B a k d).length<=a.length
 |[],_,_=>bk _
 |c::a,k,d=>by
  have:=L2 (l:=l) (i:=i) (b:=b) (aT:=aT) (B:=B) a (k+1) (d.at n c);show List.length (_++_)<=_;rw[b0,cc];split
  . simp only[hP];omega
  . simp only[eu];omega
def LR(ok:di n){l:aq}{i b:Nat}{aT:Bool}{c:aI}:(fR n l i b aT c).length<=6:=by
 unfold fR;split
 . rename_i r a;split
   . refine fJ (L2 _ _ _) ?_;have:=ok.aO r (bI a);rw[kJ];omega
   . exact c_ _
 . exact c_ _
def Q0(ok:di n){l:aq}{i k:Nat}:(fw n q l i k).length<=6:=by
 unfold fw;split
 . exact c_ _
 . split
   . exact LR ok
   . exact c_ _
theorem Dq(ok:di n){l:aq}{t:Int}{r:aV}{i:Nat}:∀(a:List aZ)(k:Nat),(kS n q l t r i a k).length<=6*a.length
 |[],_=>c_ _
 |c::a,k=>by
  have:=Dq ok (l:=l) (t:=t) (r:=r) (i:=i) a (k+1);show List.length (_++_)<=_;rw[b0,cc];have:(pA n q l t r i k c).length<=6:=by
   unfold pA;split
   . exact Q0 ok
   . exact c_ _
  omega
theorem Ds(ok:di n){l:aq}{t:Int}:∀(a:List aV)(i:Nat),(∀r∈a,r.aO.length<=6)->(lA n q l t a i).length<=36*a.length
 |[],_,_=>c_ _
 |r::a,i,h=>by have:=Ds ok (l:=l) (t:=t) a (i+1) λx b=>h x (fs _ b);show List.length (_++_)<=_;rw[b0,cc];have:=Dq (q:=q) ok (l:=l) (t:=t) (r:=r) (i:=i) r.aO 0;have:=h r (ft ..);omega
def Dn(ok:di n){l:aq}{t:Int}:(gD n q l t).length<=252:=by have:=Ds (q:=q) ok (l:=l) (t:=t) n.ar 0 ok.aO;have:=ok.ar;unfold gD;omega
theorem Mr{l:aq}:∀a:List bb,(nv q l a).length<=(nw a l.place.stop).length
 |[]=>bk _
 |p::a=>by
  have d:=Mr (l:=l) a;show List.length (_++_)<=_;rw[b0];by_cases b:p.src=l.place.stop
  . have e:nw (p::a) l.place.stop=p.dst::nw a l.place.stop:=by simp[nw,b]
    rw[e,cc];have:(qi q l p).length<=1:=by unfold qi;split<;>simp
    omega
  . have e:nw (p::a) l.place.stop=nw a l.place.stop:=by simp[nw,b]
    have c:qi q l p=[]:=by unfold qi nx;rw[decide_eq_false b];rfl
    rw[e,c];exact fJ (by simp) d
def Mp(ok:di n){l:aq}:(jT n q l).length<=10:=by refine fJ (Mr n.bw) ?_;have ae:=ok.ok.sO;have a:=Ej (K:=nw n.bw l.place.stop) (m:=2) (λx=>aea ae _ x) [0,1,2,3,4];refine fJ (BO (f:=λt=>([0,1,2,3,4]:List Int).count t) λx c=>?_) a;obtain⟨p,b,_,rfl⟩:=aeb c;obtain⟨⟨_,⟨d,g⟩,_⟩,_⟩:=((BF _ _).1 ae).1 p b;have:=ok.aB;rcases(show p.dst=0∨p.dst=1∨p.dst=2∨p.dst=3∨p.dst=4 by omega) with e|e|e|e|e<;>rw[e]<;>decide
def acZ(ok:di n){l:aq}:(iK n l).length<=180:=by
 have:∀a:List b1,(kD n l a).length<=6*a.length:=λa=>by
  induction a with
  |nil=>exact bk _
  |cons x a b=>
   show List.length (_++_)<=_;rw[b0,cc];have:(mE n l x).length<=6:=by
    unfold mE;split
    . exact LR ok
    . exact c_ _
   omega
 have:=this n.bj;have:=ok.bj;unfold iK;omega
def JX(ok:di n){l:aq}{t:Int}:(i2 n q l t).length<=262:=by have:=Dn (q:=q) ok (l:=l) (t:=t);have:=Mp (q:=q) ok (l:=l);unfold i2;rw[b0];omega
def Z3(ok:di n)(l:aq):(fO n q l).length<=1000:=by
 unfold fO;split
 . unfold pJ kz;rw[b0];have:=acZ ok (l:=l);split
   . have:=JX (q:=q) ok (l:=gk l) (t:=l.aM+dS n l.place.stop);omega
   . simp only[eu];omega
 . split
   . have:=Dn (q:=q) ok (l:=l) (t:=l.aM);omega
   . have:=JX (q:=q) ok (l:=l) (t:=i8 n q l);omega
def Ca{A:List aq}(h:∀x∈A,x.place.cP=1):ny A=0:=List.countP_eq_zero.2 λx a=>by rw[h x a];decide
def Mx(A B:List aq):ny (A++B)=ny A+ny B:=List.countP_append
def aef(A:List aq):ny A<=A.length:=List.countP_le_length
def wI{l:aq}{t:Int}:∀x∈gD n q l t,x.place.cP=1:=by
 intro x e;obtain⟨i,k,r,c,b,d,_,a⟩:=xy.1 e;unfold fw at a;split at a
 . cases a
 . simp only[gR,b,d] at a;exact(ro x a).1
theorem ad8{l:aq}:∀x∈jT n q l,x.place.cP=2:=by intro x a;obtain⟨p,_,_,rfl⟩:=xz.1 a;rfl
def JW{l:aq}{t:Int}:∀x∈i2 n q l t,x.place.cP=1∨x.place.cP=2:=λx a=>(dv.1 a).elim (λh=>.inl (wI x h)) λh=>.inr (ad8 x h)
def JY(ok:di n){l:aq}{t:Int}:ny (i2 n q l t)<=10:=by unfold i2;rw[Mx,Ca wI,dm];exact fJ (aef _) (Mp ok)
def Z2(l:aq):∀x∈fO n q l,x.place.cP=1∨x.place.cP=2:=by
 intro x a;unfold fO at a;split at a
 . rcases dv.1 a with a|a
   . exact .inl (x7 x a).1
   . unfold kz at a;split at a
     . exact JW x a
     . cases a
 . split at a
   . exact .inl (wI x a)
   . exact JW x a
def Z4(ok:di n)(l:aq):ny (fO n q l)+1<=dD l:=by
 unfold fO dD;split
 . rename_i b;rw[ax J];unfold pJ;rw[Mx,Ca λx a=>(x7 x a).1];have:ny (kz n q l)<=10:=by
    unfold kz;split
    . exact JY ok
    . exact c_ _
   omega
 . split
   . rw[Ca wI];exact bk _
   . have:=JY (q:=q) ok (l:=l) (t:=i8 n q l);omega
def ad6(l:aq):1<=dD l:=by unfold dD;split<;>omega
def Xz(E:Env n q d){ap:aN}(t:j7 ap)(u:ap.Ok):we n q ap (l7 n q d) (λA Q=>11*(1143085230 -nn A)+c5 dD Q) ta:=by
 refine⟨λl h=>h.c4.c4 E,λl h=>AT E h,λA Q b=>?_,λA Q x b m=>?_,λA Q x v p w a b g k c=>?_,Lh E,List.pairwise_singleton _ _,?_⟩
 . have:=BO (f:=dD) (l:=Q) λl _=>ad6 l;omega
 . have:=Z3 (q:=q) E.ok x;omega
 . have m:=b x (k.subset (ft ..));have j:=AT E m;have i:ta p:=D7 t u c (λo e=>(a o e).bf) (λo e=>(j o e).bf) g;have s:=c.all a j;have y:=KL E s i;have z:=C2 c (Z2 x);have B:=Z4 (q:=q) E.ok x;have r:=adf dD k;have C:=KL E a g;simp only[c5] at r;exact⟨i,J⟩
 . show 11*(1143085230 -nn [f0 q])+c5 dD [f0 q]<=400000000000;have:dD (f0 q)=11:=rfl;simp only[c5,this];omega
end
structure de(n:ak)(i k:Nat)(r:aV)(c:aZ):Prop where
 cy:n.ar[i]? =I r
 ds:r.ds=ad
 cV:r.aO[k]? =I c
inductive eg(n:ak)(q:aG):Nat->Nat->Nat->Prop
 |eP {i b:Nat} {R:aV} {B:aZ}:de n i b R B->B.cM=U->B.stop=q.src->q.aM+(if q.hc then dS n q.src else 0)<=B.aR->eg n q 1 i b
 |kA {i b:Nat} {R:aV} {B:aZ} {p:bb}:p∈n.bw->p.src=q.src->q.aM+p.bs<=3155932800->de n i b R B->B.cM=U->B.stop=p.dst->q.aM+p.bs<=B.aR->eg n q 1 i b
 |bl {r j a m i b:Nat} {S R:aV} {e B:aZ}:eg n q r j a->a<m->de n j m S e->e.ct=U->de n i b R B->B.cM=U->B.stop=e.stop->e.aQ+dS n e.stop<=B.aR->eg n q (r+1) i b
 |qV {r j a m i b:Nat} {S R:aV} {e B:aZ} {x:b1}:eg n q r j a->a<m->de n j m S e->e.ct=U->de n i b R B->B.cM=U->x∈n.bj->x.aT=ad->x.src=j->x.fg=m->x.dst=i->x.ea=b->e.aQ<=B.aR->eg n q (r+1) i b
 |bD {r j a m i b:Nat} {S R:aV} {e B:aZ} {p:bb}:eg n q r j a->a<m->de n j m S e->e.ct=U->p∈n.bw->p.src=e.stop->e.aQ+p.bs<=3155932800->de n i b R B->B.cM=U->B.stop=p.dst->e.aQ+p.bs<=B.aR->eg n q (r+1) i b
 |aT {r j a m i:Nat} {S R:aV} {e B:aZ} {x:b1}:eg n q r j a->a<m->de n j m S e->de n i 0 R B->x∈n.bj->x.aT=U->x.src=j->x.fg=m->x.dst=i->e.aQ<=B.aR->eg n q r i 0
inductive fU(n:ak)(q:aG):Nat->Int->Int->Prop
 |eP:fU n q 0 q.src q.aM
 |kA {p:bb}:p∈n.bw->p.src=q.src->q.aM+p.bs<=3155932800->fU n q 0 p.dst (q.aM+p.bs)
 |bl {r j a m:Nat} {S:aV} {e:aZ}:eg n q r j a->a<m->de n j m S e->e.ct=U->fU n q r e.stop e.aQ
 |bD {r j a m:Nat} {S:aV} {e:aZ} {p:bb}:eg n q r j a->a<m->de n j m S e->e.ct=U->p∈n.bw->p.src=e.stop->e.aQ+p.bs<=3155932800->fU n q r p.dst (e.aQ+p.bs)
structure mR(n:ak)(q:aG)(d:Int->Nat)(l:aq):Prop where
 i5:l7 n q d l
 Y8:l.place.cP≠0->∃x,l.bz.getLast?=I x/\x.aQ=l.aM
 sS:∀k x,l.bz[k]? =I x->x.aT=U->x.bl=U/\∃m y,k=m+1/\l.bz[m]? =I y/\y.bl=U
 eP:l.place.cP=0->l.place.stop=q.src/\l.aM=q.aM/\l.aY=0
 up:l.place.cP=1->∃(r i k a:Nat),l.aY=r/\l.place.run=i/\l.place.cl=k/\eg n q r i a/\a<k/\∃R c,de n i k R c
 Mw:l.place.cP=2->(∃p∈n.bw,p.src=q.src/\q.aM+p.bs<=3155932800/\l.aY=0/\l.place.stop=p.dst/\l.aM=q.aM+p.bs)∨
  ∃(r j a m:Nat)(S:aV)(e:aZ)(p:bb),eg n q r j a/\a<m/\de n j m S e/\e.ct=U/\p∈n.bw/\p.src=e.stop/\e.aQ+p.bs<=3155932800/\l.aY=r/\l.place.stop=p.dst/\l.aM=e.aQ+p.bs
section
variable{n:ak}{q:aG}{d:Int->Nat}
def mY(a:List a7):Prop:=∀k x,a[k]? =I x->x.aT=U->x.bl=U/\∃m y,k=m+1/\a[m]? =I y/\y.bl=U
def mY.vW{a:List a7}(h:mY a){x:a7}(i:x.aT=U->x.bl=U/\∃y,a.getLast?=I y/\y.bl=U):mY (a++[x]):=by
 intro k y c ae;by_cases f:k<a.length
 . rw[et f] at c;obtain⟨d,m,z,rfl,b,e⟩:=h k y c ae;exact⟨d,m,z,rfl,by rw[et J];exact b,e⟩
 . have g:=(az.1 c).1;rw[b0,hP] at g;obtain rfl:k=a.length:=J;rw[fH (bk _),hA] at c;cases c;obtain⟨d,z,b,e⟩:=i ae;rw[List.getLast?_eq_getElem?] at b;have j:=(az.1 b).1;exact⟨d,a.length -1,z,J,by rw[et J];exact b,e⟩
def Ui{l:aq}{t:Int}(h:mY l.bz):mY (iD l t).bz:=by
 unfold iD;split
 . rename_i x d;split
   . rename_i c;intro k y b ae;cases k with
     |succ k=>simp at b
     |zero=>cases b;obtain⟨a,_⟩:=h 0 x (by rw[d];rfl) ae;rw[c] at a;cases a
   . exact h
 . exact h
theorem L5{l:aq}{i b:Nat}{aT:Bool}{B:aZ}(h:mY l.bz)(ae:aT=U->∃y,l.bz.getLast?=I y/\y.bl=U):∀{d:List aZ}{k:Nat}{e:aI},∀x∈il n l i b aT B d k e,mY x.bz/\∃y,x.bz.getLast?=I y/\y.aQ=x.aM
 |[],_,_,x,a=>by cases a
 |c::d,k,e,x,a=>by
  rcases dv.1 a with a|a
  . split at a
    . rw[dV.1 a];exact⟨h.vW λf=>⟨rfl,ae f⟩,_,List.getLast?_concat,rfl⟩
    . cases a
  . exact L5 h ae x a
def LV{l:aq}{i b:Nat}{aT:Bool}{c:aI}(h:mY l.bz)(ae:aT=U->∃y,l.bz.getLast?=I y/\y.bl=U):∀x∈fR n l i b aT c,mY x.bz/\∃y,x.bz.getLast?=I y/\y.aQ=x.aM:=by
 intro x a;unfold fR at a;split at a
 . split at a
   . exact L5 h ae x a
   . cases a
 . cases a
theorem L0{l:aq}{i b:Nat}{aT:Bool}{B:aZ}:∀{d:List aZ}{k:Nat}{e:aI},∀x∈il n l i b aT B d k e,∃m c,d[m]? =I c/\x.place.cl=((k+m:Nat):Int)/\x.place.stop=c.stop/\x.aM=c.aQ/\x.place.run=i
 |[],_,_,x,a=>by cases a
 |c::d,k,e,x,a=>by
  rcases dv.1 a with a|a
  . split at a
    . rw[dV.1 a];exact⟨0,c,rfl,rfl,rfl,rfl,rfl⟩
    . cases a
  . obtain⟨m,f,g,h⟩:=L0 x a;exact⟨m+1,f,g,by rwa [show k+(m+1)=k+1+m by omega]⟩
def LP{l:aq}{i b:Nat}{aT:Bool}{j:aI}{r:aV}(e:n.ar[i]? =I r)(h:r.ds=ad):∀x∈fR n l i b aT j,∃m c,b<m/\de n i m r c/\x.place.cl=m/\x.place.stop=c.stop/\x.aM=c.aQ/\x.place.run=i:=by
 intro x a;simp only[fR,e] at a;split at a
 . obtain⟨m,c,d,f,g⟩:=L0 x a;rw[h2] at d;exact⟨b+1+m,c,J,⟨e,h,d⟩,f,g⟩
 . cases a
def y9{l:aq}{t:Int}(F:0<=l.aY)(ae:mY l.bz)(r:∀x∈gD n q l t,l7 n q d x)
 (y:∀i b R B,de n i b R B->B.cM=U->B.stop=l.place.stop->(t<=B.aR∨(l.aM<=B.aR/\oR n l i b=U))->eg n q (l.aY.toNat+1) i b):∀x∈gD n q l t,mR n q d x:=by
 intro x k;have u:=r x k;obtain⟨i,b,R,B,f,g,h,a⟩:=xy.1 k;simp only[m1,bL,ln,hM,cZ,decide_eq_false_iff_not] at h;obtain⟨j,s,w,_,v⟩:=h;unfold fw at a;split at a
 . cases a
 . simp only[gR,f,g] at a;obtain⟨E,o,p,_⟩:=ro x a;rw[vc] at o;obtain⟨D,bP⟩:=LV (Ui ae) (λe=>kI e) x a;obtain⟨m,c,z,A,C,_⟩:=LP f j x a;refine⟨u,λ_=>bP,D,λe=>aJ e J,λ_=>⟨l.aY.toNat+1,i,m,b,J,p,C,y i b R B ⟨f,j,g⟩ s w v,z,R,c,A⟩,λe=>aJ e J⟩
def Mt{l:aq}(ae:mY l.bz)(u:∀x∈jT n q l,l7 n q d x)
 (y:∀p∈n.bw,p.src=l.place.stop->l.aM+p.bs<=3155932800->(∃b∈n.bw,b.src=q.src/\q.aM+b.bs<=3155932800/\l.aY=0/\(oh l p).place.stop=b.dst/\(oh l p).aM=q.aM+b.bs)∨
   ∃(r j a m:Nat)(S:aV)(e:aZ)(b:bb),eg n q r j a/\a<m/\de n j m S e/\e.ct=U/\b∈n.bw/\b.src=e.stop/\e.aQ+b.bs<=3155932800/\l.aY=r/\(oh l p).place.stop=b.dst/\(oh l p).aM=e.aQ+b.bs):∀x∈jT n q l,mR n q d x:=by
 intro x f;have v:=u x f;obtain⟨p,w,c,rfl⟩:=xz.1 f;simp only[nx,bL,hM,cZ,decide_eq_false_iff_not] at c;refine⟨v,λ_=>⟨_,List.getLast?_concat,rfl⟩,mY.vW ae λe=>kI e,λe=>aJ e (by show(2:Int)≠0;omega),λe=>aJ e (by show(2:Int)≠1;omega),λ_=>?_⟩;rcases y p w c.1 J with⟨b,g,i,k,o,s,t⟩|h
 . exact .inl ⟨b,g,i,k,o,s,t⟩
 . exact .inr h
end
section
variable{n:ak}{q:aG}{d:Int->Nat}
def Z0(E:Env n q d){l:aq}(h:mR n q d l):∀x∈fO n q l,mR n q d x:=by
 have u:=AT E h.i5;have Q:=h.i5.c4.aY.1;unfold fO at u⊢;split at u
 . rename_i H;rw[aF H];obtain⟨r,i,k,a,ak,O,P,N,L,R,c,v⟩:=h.up H;obtain⟨ao,ap,aL,aw,y,D⟩:=h.i5.c4.rd H;obtain rfl:ao=i:=by have:=D.run;omega
   obtain rfl:ap=k:=by have:=D.cl;omega
   obtain rfl:R=aL:=by have:=D.cy;rw[v.cy] at this;exact mN this
   obtain rfl:c=aw:=by have:=D.cV;rw[v.cV] at this;exact mN this
   intro x f;rcases dv.1 f with f|f
   . obtain⟨p,C,ae,X⟩:=AK.1 f;obtain⟨a2,au,av,_⟩:=ro x X;simp only[ik,bL,cZ] at ae;obtain⟨aN,bP,aO,t⟩:=ae;obtain⟨j,aA⟩:=eb C;obtain⟨ay,_⟩:=(E.ok.ok.bj.2 j p aA).dst;unfold sj at t;split at t
     . rename_i aj am;split at t
       . rename_i B o;simp only[bL,hM,cZ] at t;obtain⟨aP,aQ⟩:=LV h.sS (λ_=>⟨y,D.last,D.xr⟩) x X;obtain⟨m,c2,aH,aI,aK,_⟩:=LP am t.1 x X;refine⟨u x (je _ f),λ_=>aQ,aP,λe=>aJ e J,λ_=>⟨r,p.dst.toNat,m,0,by rw[au];exact ak,av,aK,?_,aH,aj,c2,aI⟩,λe=>aJ e J⟩;exact eg.aT N L v ⟨am,t.1,o⟩ C aN (bP.trans O) (aO.trans P) (fr ay).symm (by rw[<-D.aM];exact t.2)
       . cases t
     . cases t
   . unfold kz at f;split at f
     . rename_i K;have T:c.ct=U:=by
        unfold mb at K;rw[O,P] at K;simpa only[gR,dU,v.cy,v.cV] using K
       have al:∀y∈i2 n q (gk l) (l.aM+dS n l.place.stop),l7 n q d y:=λy s=>u y (iq _ (by unfold kz;rw[aF K];exact s));have aD:l.aY.toNat=r:=J;rcases dv.1 f with f|f
       . refine y9 (l:=gk l) Q h.sS (λy s=>al y (je _ s)) (λaG b aj B A o w g=>?_) x f;have w:B.stop=c.stop:=w.trans D.stop;show eg n q (l.aY.toNat+1) aG b;rw[aD];rcases g with g|⟨az,G⟩
         . refine eg.bl N L v T A o w ?_;rw[<-D.aM,<-D.stop];exact g
         . unfold oR at G;obtain⟨z,aE,an⟩:=List.any_eq_true.1 G;simp only[iY,bL,hM,cZ] at an;obtain⟨aW,_,aX,aZ,a0,a1⟩:=an;exact eg.qV N L v T A o aE aW (aX.trans O) (aZ.trans P) a0 a1 (by rw[<-D.aM];exact az)
       . refine Mt (l:=gk l) h.sS (λy s=>al y (iq _ s)) (λp C W F=>.inr ⟨r,ao,a,ap,R,c,p,N,L,v,T,C,W.trans D.stop,?_,ak,rfl,?_⟩) x f
         . rw[<-D.aM];exact F
         . rw[<-D.aM];rfl
     . cases f
 . rename_i H;rw[ax H];split at u
   . rename_i M;rw[aF M];refine y9 Q h.sS u (λi b R B A o w g=>?_);have F:l.aM<=B.aR:=g.elim id (·.1);rcases h.Mw M with⟨p,aa,dD,ab,af,ah,ai⟩|⟨r,j,a,m,S,e,p,aa,dD,ab,af,ah,ai,aU,a3,aV,aS⟩
     . rw[af];exact eg.kA aa dD ab A o (w.trans ah) (by rw[<-ai];exact F)
     . rw[show l.aY.toNat=r by omega];exact eg.bD aa dD ab af ah ai aU A o (w.trans aV) (by rw[<-aS];exact F)
   . rename_i M;rw[ax M];have aB:l.place.cP=0:=by have:=h.i5.c4.cP;omega
     obtain⟨Y,Z,ar⟩:=h.eP aB;have aC:∀i b,oR n l i b=ad:=λi b=>by unfold oR;refine List.any_eq_false.2 λz _=>?_;unfold iY;rw[decide_eq_false (by omega:¬l.place.cP=1)];simp
     intro x f;rcases dv.1 f with f|f
     . refine y9 Q h.sS (λy s=>u y (je _ s)) (λi b R B A o w g=>?_) x f;rcases g with g|⟨_,G⟩
       . rw[ar];refine eg.eP A o (w.trans Y) ?_;unfold i8 at g;rw[Y,Z] at g;split at g
         . rename_i V;rw[aF V];exact g
         . rename_i V;rw[ax V,Int.add_zero];exact g
       . rw[aC] at G;cases G
     . refine Mt h.sS (λy s=>u y (iq _ s)) (λp C W F=>.inl ⟨p,C,W.trans Y,by rw[<-Z];exact F,ar,rfl,?_⟩) x f;show l.aM+p.bs=_;rw[Z]
def acY(E:Env n q d):mR n q d (f0 q):=
 ⟨Lh E,λh=>aJ rfl h,λk x h=>by simp[f0] at h,λ_=>⟨rfl,rfl,rfl⟩,λe=>aJ e (by show(0:Int)≠1;omega),λe=>aJ e (by show(0:Int)≠2;omega)⟩
def Xy(E:Env n q d){ap:aN}(k:j7 ap)(m:ap.Ok):we n q ap (mR n q d) (λA Q=>11*(1143085230 -nn A)+c5 dD Q) ta:=by
 have g:=Xz E k m;exact⟨λl h=>h.i5.c4.c4 E,λl h=>Z0 E h,λA Q a=>g.len A Q λl h=>(a l h).i5,λA Q x a p=>g.T9 A Q x (λl h=>(a l h).i5) p,
  λA Q x c b e f a i o j=>g.dec A Q x c b e (λl h=>(f l h).i5) (λl h=>(a l h).i5) i o j,acY E,g.one,g.acM⟩
end
def aeC{n:ak}(ok:di n)(b:List aZ):lX n b<2^16:=by
 have:∀(b:List aZ)(a:Nat),a<2^16->b.foldl (λz c=>z|||g0 (lm n c.stop)) a<2^16:=λb=>by
  induction b with
  |nil=>exactλa h=>h
  |cons c b d=>intro a h;refine d _ (Nat.or_lt_two_pow h ?_);obtain⟨e,f⟩:=Ch ok c.stop;unfold g0;rw[aF J];exact Nat.pow_lt_pow_right J J
 exact this b 0 (by decide)
def abI{n:ak}(ok:di n)(l:a7):gC (sI n l):=by
 have b:=aeC ok (mr n l);obtain⟨z,a⟩:∃z,oS n l=IntKind.i64.wrap ((g0 (oX n z):Nat):Int):=⟨_,rfl⟩;obtain⟨c,d⟩:=JG ok z;have e:g0 (oX n z)<2^8:=by unfold g0;rw[aF J];exact Nat.pow_lt_pow_right J J
 refine⟨?_,?_⟩
 . show 0<=qk n l/\qk n l<65536;unfold qk;rw[kH _ J J];omega
 . show 0<=oS n l/\oS n l<256;rw[a,kH _ J J];omega
def abK{n:ak}(ok:di n){out:List aI}{l:a7}(h:∀r∈out,gC r):∀r∈ii n out l,gC r:=by
 intro r a;unfold ii at a;have b:=abI ok l;split at a
 . split at a
   . rename_i e d;rcases List.mem_or_eq_of_mem_set a with a|rfl
     . exact h r a
     . have c:=h e (bI d);exact⟨xM (k:=16) J c.1 b.1,xM (k:=8) J c.2 b.2⟩
   . exact h r a
 . rcases dv.1 a with a|a
   . exact h r a
   . rw[dV.1 a];exact b
theorem KM{n:ak}(ok:di n):∀(f:List a7)(g:Bool)(out:List aI),(∀r∈out,gC r)->(∀x∈f,yI n x)->
 (∀k x,f[k]? =I x->x.aT=U->x.bl=U/\((k=0/\g=U)∨∃m y,k=m+1/\f[m]? =I y/\y.bl=U))->(kC n g f out).1=0/\∀r∈(kC n g f out).2,gC r
 |[],_,out,h,_,_=>⟨rfl,h⟩
 |l::z,g,out,h,q,ae=>by
  have t:¬(l.bl=U/\ku n l=ad):=by rintro⟨v,o⟩;obtain⟨i,b,k,r,B,c,L⟩:=q l (ft ..) v;have p:=(az.1 L.cV).1;have s:=L.run;have A:=L.cM;have C:=L.ct;have D:=L.tw;have:ku n l=U:=(zS n l).2 ⟨J,r,by rw[s,dU];exact L.cy,J,J,J⟩;rw[this] at o;cases o
  have u:¬(l.aT=U/\(l.bl=ad∨g=ad)):=by
   rintro⟨j,d⟩;obtain⟨a,b⟩:=ae 0 l rfl j;rcases d with d|d
   . rw[a] at d;cases d
   . rcases b with⟨_,b⟩|⟨m,_,b,_⟩
     . rw[b] at d;cases d
     . omega
  unfold kC;rw[ax t,ax u];refine KM ok z l.bl _ ?_ (λx w=>q x (fs _ w)) λk x p j=>?_
  . split
    . exact abK ok h
    . exact h
  . obtain⟨a,b⟩:=ae (k+1) x p j;refine⟨a,?_⟩;rcases b with⟨b,_⟩|⟨m,y,e,b,c⟩
    . omega
    . obtain rfl:k=m:=J;cases k with
      |zero=>cases b;exact .inl ⟨rfl,c⟩
      |succ k=>exact .inr ⟨k,y,rfl,b,c⟩
section
variable{n:ak}{q:aG}{d:Int->Nat}
def Eh(E:Env n q d)(p:j7 n.bQ)(r:n.bQ.Ok)(o:(g4 n.bQ).2=0){l:aq}(h:mR n q d l):(iA n q l.bz).2.2=0/\(iA n q l.bz).1.aQ=l.aM:=by
 obtain⟨t,u⟩:=KM E.ok l.bz ad [] (λ_ h=>(gh h).elim) h.i5.c4.bz.ok λk x c ae=>by obtain⟨a,b⟩:=h.sS k x c ae;exact⟨a,.inr b⟩
 have m:(fo n l.bz).2.length<=8:=by have:=abP n l.bz;have:=h.i5.c4.ew;have:=h.i5.c4.aY;have:=E.aY;omega
 have i:=T2 p r o u m;have f:¬(fo n l.bz).1≠0:=λh=>h t;have g:¬(gT n.bQ (fo n l.bz).2).2.2≠0:=λh=>h i;unfold iA;rw[ax f,ax g];refine⟨rfl,?_⟩;show(pG q l.bz).2=l.aM;by_cases c:l.place.cP=0
 . have:l.bz=[]:=h.i5.c4.eP c;rw[this,(h.eP c).2.1];rfl
 . obtain⟨x,e,j⟩:=h.Y8 c;rw[List.getLast?_eq_getElem?] at e;have:=(az.1 e).1;obtain⟨y,s⟩:∃y,l.bz[0]? =I y:=⟨l.bz[0]'J,by simp⟩;unfold pG;rw[s,e];exact j
def ad4(E:Env n q d)(g:j7 n.bQ)(j:n.bQ.Ok)(f:(g4 n.bQ).2=0){l:aq}(h:mR n q d l)(ae:l.place.stop=q.dst)(e:l.place.cP=1->mb n l=U):∃o∈lj n q l,o.dW.aQ=l.aM:=by
 obtain⟨b,c⟩:=Eh E g j f h;have a:A2 n q l∈iC n q l:=by unfold iC oL;rw[aF ae,aF b];exact dV.2 rfl
 refine⟨A2 n q l,?_,c⟩;unfold lj;split
 . rename_i i;unfold oJ;rw[aF (e i)];exact a
 . exact a
def ad3(E:Env n q d)(L:j7 n.bQ)(N:n.bQ.Ok)(K:(g4 n.bQ).2=0){l:aq}(h:mR n q d l){o:cx}(b:o∈lj n q l):∃r:Nat,(r:Int)<=q.aY/\fU n q r q.dst o.dW.aQ:=by
 obtain⟨C,F⟩:=Eh E L N K h;have ab:=h.i5.c4.aY;have key:o∈iC n q l->l.place.stop=q.dst/\o.dW.aQ=l.aM:=by
  intro b;unfold iC oL at b;by_cases ae:l.place.stop=q.dst
  . rw[aF ae,aF C] at b;rw[dV.1 b];exact⟨ae,F⟩
  . rw[ax ae] at b;cases b
 unfold lj at b;split at b
 . rename_i s;unfold oJ at b;split at b
   . rename_i g;obtain⟨aD,ba⟩:=key b;obtain⟨r,i,k,a,aa,A,B,O,G,R,c,f⟩:=h.up s;obtain⟨P,Q,W,z,y,D⟩:=h.i5.c4.rd s;obtain rfl:P=i:=by have:=D.run;omega
     obtain rfl:Q=k:=by have:=D.cl;omega
     obtain rfl:R=W:=by have:=D.cy;rw[f.cy] at this;exact mN this
     obtain rfl:c=z:=by have:=D.cV;rw[f.cV] at this;exact mN this
     have H:c.ct=U:=by unfold mb at g;rw[A,B] at g;simpa only[gR,dU,f.cy,f.cV] using g
     refine⟨r,J,?_⟩;rw[ba,D.aM,<-aD,D.stop];exact fU.bl O G f H
   . cases b
 . rename_i s;obtain⟨aD,ba⟩:=key b;rw[ba,<-aD];by_cases M:l.place.cP=0
   . obtain⟨T,V,af⟩:=h.eP M;exact⟨0,J,by rw[T,V];exact fU.eP⟩
   . rcases h.Mw (by have:=h.i5.c4.cP;omega) with⟨p,t,dD,u,x,v,w⟩|⟨r,j,a,m,S,e,p,t,dD,u,x,v,w,Y,ah,Z,X⟩
     . exact⟨0,J,by rw[v,w];exact fU.kA t dD u⟩
     . exact⟨r,J,by rw[Z,X];exact fU.bD t dD u x v w Y⟩
end
section
variable{n:ak}{q:aG}{d:Int->Nat}{A:List aq}{O:List cx}
def tX{l:aq}(h:mR n q d l)(f:l.place.cP=1){j m:Nat}{R:aV}{e:aZ}(b:l.place.run=j)(g:l.place.cl=m)(a:de n j m R e):l.aM=e.aQ/\l.place.stop=e.stop/\mb n l=e.ct:=by
 obtain⟨i,k,r,c,y,D⟩:=h.i5.c4.rd f;obtain rfl:i=j:=by have:=D.run;omega
 obtain rfl:k=m:=by have:=D.cl;omega
 obtain rfl:R=r:=by have:=D.cy;rw[a.cy] at this;exact mN this
 obtain rfl:e=c:=by have:=D.cV;rw[a.cV] at this;exact mN this
 refine⟨D.aM,D.stop,?_⟩;unfold mb;rw[b,g];simp only[gR,dU,a.cy,a.cV]
def uQ{l l':aq}{t:Int}(v:rH n q A O l)(z:∀x∈gD n q l' t,x∈fO n q l){r:Nat}(G:l'.aY<=r)(al:(r:Int)+1<=q.aY){i b m:Nat}{R f:aV}{B e:aZ}(a:de n i b R B)(p:B.cM=U)(y:B.stop=l'.place.stop)
 (w:t<=B.aR∨(l'.aM<=B.aR/\oR n l' i b=U))(s:b<m)(d:de n i m f e)(k:(e.ct||mF n i m)=U):∃o∈A,o.place.cP=1/\o.place.run=i/\o.place.cl=m/\o.aY<=((r+1:Nat):Int):=by
 obtain rfl:R=f:=by have:=a.cy;rw[d.cy] at this;exact(mN this).symm
 have F:=(az.1 d.cV).1;have u:m1 n l' t R i b B=U:=by unfold m1;rw[a.ds,p,be y,decide_eq_false (show¬((b:Int)+1=(R.aO.length:Int)) by omega)];simpa using w
 obtain⟨E,C⟩:=LQ (l:=iD l' B.aR) (aT:=ad) (rd:=⟨B.aR,0,0,0⟩) a.cy a.cV d.cV s k;have D:jw (iD l' B.aR) i b ad B e m E∈fw n q l' i b:=by unfold fw;rw[ax J];simp only[gR,a.cy,a.cV];exact C
 obtain⟨o,g,c,h⟩:=v.1 _ (z _ (xy.2 ⟨i,b,R,B,a.cy,a.cV,u,D⟩));refine⟨o,g,by rw[c];rfl,by rw[c];rfl,by rw[c];rfl,?_⟩;have j:o.aY<=(iD l' B.aR).aY:=h.2.1;rw[vc] at j;omega
def yp{l l':aq}(e:rH n q A O l)(g:∀x∈jT n q l',x∈fO n q l){p:bb}(f:p∈n.bw)(ae:p.src=l'.place.stop)(i:l'.bD+p.bs<=q.bD)(h:l'.aM+p.bs<=3155932800):∃o∈A,o.place.cP=2/\o.place.stop=p.dst/\o.aM<=l'.aM+p.bs/\o.aY<=l'.aY:=by
 have d:nx q l' p=U:=by unfold nx;rw[be ae,h8,h8];rfl
 obtain⟨o,c,a,b⟩:=e.1 _ (g _ (xz.2 ⟨p,f,d,rfl⟩));exact⟨o,c,by rw[a];rfl,by rw[a];rfl,b.1,b.2.1⟩
theorem AU(l:aq)(a:l.place.cP≠1)(b:l.place.cP≠2):fO n q l=gD n q l (i8 n q l)++jT n q l:=by unfold fO;rw[ax a,ax b];rfl
def JO(l:aq)(a:l.place.cP=2):fO n q l=gD n q l l.aM:=by unfold fO;rw[ax J,aF a]
theorem xC(l:aq)(a:l.place.cP=1)(b:mb n l=U):fO n q l=iK n l++(gD n q (gk l) (l.aM+dS n l.place.stop)++jT n q (gk l)):=by unfold fO;rw[aF a];unfold pJ kz;rw[aF b];rfl
def xS(E:Env n q d){p:bb}(b:p∈n.bw):1<=p.bs/\p.bs<=14400:=by obtain⟨i,a⟩:=eb b;obtain⟨⟨_,_,ae⟩,_⟩:=E.ok.ok.sO i p a;exact ae
theorem Mh(E:Env n q d)(g:yC n q (mR n q d) A O)(aG:q.aY<=5)(aH:q.bD=86400){r j a:Nat}(Y:eg n q r j a):(r:Int)<=q.aY->∀(m:Nat)(R:aV)(e:aZ),a<m->de n j m R e->(e.ct||mF n j m)=U->∃l∈A,l.place.cP=1/\l.place.run=j/\l.place.cl=m/\l.aY<=r:=by
 induction Y with
 |eP f C ae z=>
  intro M m R e y u w;have D:=g.lF _ g.start;refine uQ D (l':=f0 q) (t:=i8 n q (f0 q)) (r:=0) (λx c=>by rw[AU _ (by show(0:Int)≠1;omega) (by show(0:Int)≠2;omega)];exact je _ c) (fS 0) (by simpa using M) f C ae (.inl ?_) y u w;unfold i8;split
  . rename_i al;rw[aF al] at z;exact z
  . rename_i al;rw[ax al,Int.add_zero] at z;exact z
 |@kA i b V B p X am aq f C ae z=>intro M m R e y u w;have D:=g.lF _ g.start;have az:=xS E X;obtain⟨o,an,ao,ap,aa,W⟩:=yp D (l':=f0 q) (λx c=>by rw[AU _ (by show(0:Int)≠1;omega) (by show(0:Int)≠2;omega)];exact iq _ c) X am (by show 0+p.bs<=q.bD;omega) aq;have W:o.aY<=0:=W;have aa:o.aM<=q.aM+p.bs:=aa;exact uQ (g.lF o an) (l':=o) (t:=o.aM) (r:=0) (λx c=>by rw[JO _ ao];exact c) W (by simpa using M) f C (ae.trans ap.symm) (.inl J) y u w
 |@bl r j a N i b S V K B Y P f L h C ae z Q=>intro M m R e y u w;obtain⟨l,v,s,F,G,Z⟩:=Q J N S K P f (by rw[L];rfl);obtain⟨ab,T,H⟩:=tX (g.inv l v) s F G f;rw[L] at H;refine uQ (g.lF l v) (l':=gk l) (t:=l.aM+dS n l.place.stop) (r:=r) (λx c=>by rw[xC _ s H];exact iq _ (je _ c)) Z J h C (ae.trans T.symm) (.inl ?_) y u w;rw[ab,T];exact z
 |@qV r j a N i b S V K B x Y P f L h C c aj af ah ai ar z Q=>
  intro M m R e y u w;obtain⟨l,v,s,F,G,Z⟩:=Q J N S K P f (by rw[L];rfl);obtain⟨ab,T,H⟩:=tX (g.inv l v) s F G f;rw[L] at H;obtain⟨k,aw⟩:=eb c;obtain⟨_,_,D,_⟩:=(E.ok.ok.bj.2 k x aw).aO S V (by rw[af,dU];exact f.cy) (by rw[ai,dU];exact h.cy);have D:=D K B (by rw[ah,dU];exact f.cV) (by rw[ar,dU];exact h.cV);refine uQ (g.lF l v) (l':=gk l) (t:=l.aM+dS n l.place.stop) (r:=r) (λx c=>by rw[xC _ s H];exact iq _ (je _ c)) Z J h C (D.symm.trans T.symm) (.inr ⟨?_,?_⟩) y u w
  . show l.aM<=B.aR;rw[ab];exact z
  . unfold oR;refine List.any_eq_true.2 ⟨x,c,?_⟩;show iY l i b x=U;unfold iY;rw[aj,be s,be (af.trans F.symm),be (ah.trans G.symm),be ai,be ar];rfl
 |@bD r j a N i b S V K B p Y P f L X am aq h C ae z Q=>intro M m R e y u w;obtain⟨l,v,s,F,G,Z⟩:=Q J N S K P f (by rw[L];rfl);obtain⟨ab,T,H⟩:=tX (g.inv l v) s F G f;rw[L] at H;have az:=xS E X;have aB:=(g.inv l v).i5.Cb;rw[s,ax J] at aB;obtain⟨o,an,ao,ap,aa,W⟩:=yp (g.lF l v) (l':=gk l) (λx c=>by rw[xC _ s H];exact iq _ (iq _ c)) X (am.trans T.symm) (by show l.bD+p.bs<=q.bD;omega) (by show l.aM+p.bs<=_;omega);have W:o.aY<=l.aY:=W;have aa:o.aM<=l.aM+p.bs:=aa;exact uQ (g.lF o an) (l':=o) (t:=o.aM) (r:=r) (λx c=>by rw[JO _ ao];exact c) J J h C (ae.trans ap.symm) (.inl J) y u w
 |@aT r j a N i S V K B x Y P f h c aj af ah ai z Q=>
  intro M m R e y u w;obtain rfl:R=V:=by have:=h.cy;rw[u.cy] at this;exact mN this
  have aA:mF n j N=U:=List.any_eq_true.2 ⟨x,c,by rw[aj,be af,be ah];rfl⟩;obtain⟨l,v,s,F,G,Z⟩:=Q M N S K P f (by rw[aA,Bool.or_true]);obtain⟨ab,T,H⟩:=tX (g.inv l v) s F G f;have D:ik n l x=U:=by unfold ik sj;rw[aj,be (af.trans F.symm),be (ah.trans G.symm),ai,dU,h.cy];simp only[h.cV,h.ds];rw[bR];rfl
  obtain⟨aD,aC⟩:=LQ (l:=l) (aT:=U) (rd:=l.place.bl) h.cy h.cV u.cV y w;have ay:jw l i 0 U B e m aD∈fO n q l:=by unfold fO;rw[aF s];exact je _ (AK.2 ⟨x,c,D,by rw[ai,dU];exact aC⟩)
  obtain⟨o,au,ak,av⟩:=(g.lF l v).1 _ ay;have aE:o.aY<=l.aY:=av.2.1;exact⟨o,au,by rw[ak];rfl,by rw[ak];rfl,by rw[ak];rfl,J⟩
theorem Qn(E:Env n q d)(b:yC n q (mR n q d) A O)(K:q.aY<=5)(P:q.bD=86400)(X:j7 n.bQ)(Y:n.bQ.Ok)(W:(g4 n.bQ).2=0){r:Nat}{s t:Int}(V:fU n q r s t)(M:(r:Int)<=q.aY)(ae:s=q.dst):∃o∈O,o.dW.aQ<=t:=by
 have fin:∀l∈A,l.place.stop=q.dst->l.aM<=t->(l.place.cP=1->mb n l=U)->∃o∈O,o.dW.aQ<=t:=λl L R ah T=>by obtain⟨o,u,Q⟩:=ad4 E X Y W (b.inv l L) R T;exact⟨o,(b.lF l L).2 o u,J⟩
 cases V with
 |eP=>exact fin _ b.start ae (fS _) λh=>aJ h (by show(0:Int)≠1;omega)
 |@kA p i z N=>have Z:=xS E i;obtain⟨o,u,Q,G,v,_⟩:=yp (b.lF _ b.start) (l':=f0 q) (λx C=>by rw[AU _ (by show(0:Int)≠1;omega) (by show(0:Int)≠2;omega)];exact iq _ C) i z (by show 0+p.bs<=q.bD;omega) N;exact fin o u (G.trans ae) v λh=>aJ h J
 |@bl _ j a m S e B y f g=>obtain⟨l,c,k,D,F,ab⟩:=Mh E b K P B M m S e y f (by rw[g];rfl);obtain⟨af,H,w⟩:=tX (b.inv l c) k D F f;exact fin l c (H.trans ae) J λ_=>by rw[w];exact g
 |@bD _ j a m S e p B y f g i z N=>obtain⟨l,c,k,D,F,ab⟩:=Mh E b K P B M m S e y f (by rw[g];rfl);obtain⟨af,H,w⟩:=tX (b.inv l c) k D F f;rw[g] at w;have Z:=xS E i;have aa:=(b.inv l c).i5.Cb;rw[k,ax J] at aa;obtain⟨o,u,Q,G,v,_⟩:=yp (b.lF l c) (l':=gk l) (λx C=>by rw[xC _ k w];exact iq _ (iq _ C)) i (z.trans H.symm) (by show l.bD+p.bs<=q.bD;omega) (by show l.aM+p.bs<=_;omega);have v:o.aM<=l.aM+p.bs:=v;exact fin o u (G.trans ae) J λh=>aJ h J
end
def Eb{w v:bm}(e:w.a≠v.a):lB w v=if w.a<v.a then-1 else 1:=zy (i:=0) J (λk b=>aJ b (c9 _)) e
def SE{w v:bm}(h:lB w v<0):w.a<=v.a:=by
 by_cases e:w.a=v.a
 . omega
 . rw[Eb e] at h;split at h<;>omega
def SD{w v:bm}(h:¬lB w v<0):v.a<=w.a:=by
 by_cases e:w.a=v.a
 . omega
 . rw[Eb e] at h;split at h<;>omega
def Yp{w v:bm}(h:iE w v=U):w.a<=v.a:=(pW w v).1 h 0 J
def Yr{u v w:bm}(h:iE u v=U)(k:iE v w=U):iE u w=U:=
 (pW u w).2 λi a=>Int.le_trans ((pW u v).1 h i a) ((pW v w).1 k i a)
def Yq(v:bm):iE v v=U:=(pW v v).2 λ_ _=>fS _
def uM(l:List bm):Prop:=l.Pairwise λx y=>x.a<=y.a
theorem Ls{v:bm}:∀{l:List bm},uM l->∀w∈mG v l,v.a<=w.a
 |[],_,w,b=>(gh b).elim
 |x::l,h,w,b=>by
  unfold mG at b;rw[List.dropWhile_cons] at b;split at b
  . exact Ls (List.pairwise_cons.1 h).2 w b
  . rename_i c;have c:v.a<=x.a:=SD (by simpa using c);rcases fI.1 b with rfl|b
    . exact c
    . exact Int.le_trans c ((List.pairwise_cons.1 h).1 w b)
theorem Kn{v:bm}:∀{l:List bm},∀w∈my v l,w.a<=v.a
 |[],w,b=>(gh b).elim
 |x::l,w,b=>by
  unfold my at b;rw[List.takeWhile_cons] at b;split at b
  . rename_i c;rcases fI.1 b with rfl|b
    . exact SE (by simpa using c)
    . exact Kn w b
  . cases b
def xW{l:List bm}{v w:bm}(a:¬(l.any λw=>iE w v)=U):w∈js l v↔w=v∨w∈ib v l:=by
 unfold js;rw[ax a];have:=vM v (ib v l);constructor
 . intro h;rcases dv.1 h with h|h
   . exact .inr (by rw[<-this];exact je _ h)
   . exact(fI.1 h).imp_right λh=>by rw[<-this];exact iq _ h
 . rintro(rfl|h)
   . exact iq _ (ft ..)
   . rw[<-this] at h;rcases dv.1 h with h|h
     . exact je _ h
     . exact iq _ (fs _ h)
def aaK{l:List bm}(h:uM l)(v:bm):uM (js l v):=by
 unfold js;split
 . exact h
 . have e:uM (ib v l):=List.Pairwise.filter _ h;have ae:=e;rw[<-vM v (ib v l)] at ae;obtain⟨f,g,i⟩:=List.pairwise_append.1 ae;refine List.pairwise_append.2 ⟨f,List.pairwise_cons.2 ⟨λw j=>Ls e w j,g⟩,λa d b c=>?_⟩;rcases fI.1 c with rfl|c
   . exact Kn a d
   . exact i a d b c
structure wd(L F:List bm):Prop where
 K1:uM F
 mem:∀w∈F,w∈L
 pE:∀v∈L,∃w∈F,iE w v=U
theorem IC:∀(L F D:List bm),wd D F->wd (D++L) (L.foldl js F)
 |[],F,D,h=>by rw[ez];exact h
 |v::L,F,D,h=>by
  have:wd (D++[v]) (js F v):=by
   refine⟨aaK h.K1 v,?_,?_⟩
   . intro w c;by_cases b:(F.any λw=>iE w v)=U
     . unfold js at c;rw[aF b] at c;exact je _ (h.mem w c)
     . rcases(xW b).1 c with rfl|c
       . simp
       . exact je _ (h.mem w (jf.1 c).1)
   . intro u a;by_cases b:(F.any λw=>iE w v)=U
     . have e:js F v=F:=by unfold js;rw[aF b]
       rw[e];rcases dv.1 a with a|a
       . exact h.pE u a
       . rw[dV.1 a];obtain⟨w,g,d⟩:=List.any_eq_true.1 b;exact⟨w,g,d⟩
     . rcases dv.1 a with a|a
       . obtain⟨w,g,d⟩:=h.pE u a;by_cases f:qX v w=U
         . have i:iE v w=U:=by
            unfold qX at f;rw[bL] at f;exact f.2
           exact⟨v,(xW b).2 (.inl rfl),Yr i d⟩
         . exact⟨w,(xW b).2 (.inr (jf.2 ⟨g,by simpa using f⟩)),d⟩
       . rw[dV.1 a];exact⟨v,(xW b).2 (.inl rfl),Yq v⟩
  have e:D++v::L=(D++[v])++L:=by simp
  rw[e];exact IC L _ _ this
def Xv(L:List bm):wd L (jM L):=IC L [] [] ⟨List.Pairwise.nil,λ_ h=>(gh h).elim,λ_ h=>(gh h).elim⟩
theorem St{O:List cx}:(O=[]/\oH O=[])∨∃o L,oH O=o::L/\o∈O/\∀x∈O,o.dW.aQ<=x.dW.aQ:=by
 have h:=Xv (O.map λo=>f2 o.dW);have key:∀v∈jM (O.map λo=>f2 o.dW),∃o∈O,lP O v=[o]/\f2 o.dW=v:=λv k=>by
  obtain⟨o,c,d⟩:=gY.1 (h.mem v k);unfold lP;cases f:O.find? λo=>decide (f2 o.dW=v) with
  |none=>exact aJ d (by have:=List.find?_eq_none.1 f o c;simpa using this)
  |some x=>exact⟨x,List.mem_of_find?_eq_some f,rfl,by have:=List.find?_some f;simpa using this⟩
 unfold oH;cases e:jM (O.map λo=>f2 o.dW) with
 |nil=>
  refine .inl ⟨?_,rfl⟩;cases O with
  |nil=>rfl
  |cons o O=>obtain⟨w,b,_⟩:=h.pE (f2 o.dW) (ft ..);rw[e] at b;cases b
 |cons v F=>
  obtain⟨o,c,d,g⟩:=key v (by rw[e];exact ft ..);refine .inr ⟨o,F.flatMap (lP O),by rw[List.flatMap_cons,d];rfl,c,λx l=>?_⟩;obtain⟨w,b,j⟩:=h.pE (f2 x.dW) (List.mem_map_of_mem l);have p:=Yp j;have i:v.a<=w.a:=by
   have ae:=h.K1;rw[e] at b ae;rcases fI.1 b with rfl|b
   . exact fS _
   . exact(List.pairwise_cons.1 ae).1 w b
  have m:(f2 x.dW).a=x.dW.aQ:=rfl;have n:(f2 o.dW).a=o.dW.aQ:=rfl;rw[<-g] at i;omega
noncomputable section
abbrev DL:bu:=aS 25 (ab 51 [.H 9 2,.H 10 3,.c2 11,.w 51,.v 51,.e,.w 8,.w 9] 908)
abbrev DM:bu:=aS 30 (am (eh 56 [.m 9,.bc .neq 0,.O,.m 8,.N,.F 4 3,.d .add 1,.a6 .neq,.Z,.O,.m 8,.F 4 3,.bt 1,.L,.N,.F 0 2,.N,.a6 .neq,.Z,.O,.m 8,.F 4 3,.bt 1,.L,.F 1 3,.bt 1,.L,.m 7,.a6 .neq,.Z] 2475880078570760549798248588) (bM 91 (am (ab 0 [.u 4] 16) aP) bd))
abbrev DN:bu:=aS 32 (ab 92 [.H 9 2,.H 10 3,.c2 12,.w 92,.v 92,.e,.w 10,.w 11] 3212)
abbrev DO:bu:=aS 37 (bC 97 [.m 11,.bc .neq 0,.O,.m 10,.N,.F 0 2,.N,.a6 .neq,.Z,.O,.m 7,.bc .geq 0,.Y,.m 10,.F 1 3,.bt 1,.L,.bc .lss 0,.O,.m 10,.F 1 3,.bt 1,.L,.m 7,.a6 .gtr,.Z,.Z,.Z] 1164 (ab 0 [.u 4] 16))
abbrev zd:bu:=aS 39 (ab 129 [.H 9 2,.H 10 3,.c2 13,.w 129,.v 129,.e,.K 1 12 4,.w 13] 13448)
abbrev ze:bu:=ab 0 [.i 14 0] 29832
abbrev zf:bu:=aS 43 (ab 134 [.F 0 12,.N,.R (ca 138 0)] 522673715590561479879743397015195972826248)
abbrev zg:bu:=ab 138 [.v 138,.v 137,.B .lss] 1219572003044643453052734593035457269888136
abbrev zh:bu:=ab 139 [.m 138,.w 15] 522673715590561479879743397015195972859016
abbrev zi:bu:=cK 140 [.F 0 12,.x 9 15,.hV 0,.Y,.F 0 12,.x 9 15,.hV 8,.T,.Z] 522673715590561479879743397015195972826248 (ab 155 [.j 14] 522673715590561479879743397015195972826248)
abbrev zj:bu:=ab 157 [.v 138,.d .add 1,.w 138] 522673715590561479879743397015195972826248
abbrev zk:bu:=aS 64 (ab 158 [.m 13,.bc .eql 0,.m 10,.F 1 3,.bt 1,.L,.bc .geq 0,.dA (.cp .eql .bool),.Y,.m 13,.bc .neq 0,.O,.m 14,.F 4 3,.a6 .gtr,.Z,.O,.m 10,.F 1 3,.bt 1,.L,.m 7,.a6 .eql,.Z,.Z,.Y,.bd 9,.Z,.b9 4] 16)
abbrev Xf:aU:=a9 190 [4] (am (ab 0 [.X 2 9 0,.X 3 10 1,.u 4] 12) (fx (ab 15 [.A 5 3,.G (.store 1 (ai 16) (f9 86400))] 12) (ab 16 [.H 9 2,.c1 6,.S 9 2] 12) (aS 10 (bC 18 [.H 9 2,.aD 7,.T,.O,.dH 3 3,.Z,.O,.F 4 3,.bc .gtr 5,.Z,.O,.H 9 2,.H 10 3,.c2 8,.bc .neq 0,.Z] 12 (ab 36 [.bd 9,.b9 4] 16))) (aS 12 (ab 38 [.H 9 2,.H 10 3,.c2 10,.w 38,.v 38,.e,.K 7 5 4111114,.w 6] 108)) (ab 43 [.A 1 5,.f 1,.w 7] 204) (aS 23 (wt 46 [.m 6,.bc .eql 23] 204 (ab 0 [.i 7 (-1)] 140) (bC 48 [.m 6,.bc .neq 0] 140 (ab 0 [.u 4] 16)))) DL (fx DM DN DO zd ze (am zf (cm 0 (eN [3,7,10,12,13,14,137,138] (dj zg (bM 139 bd (dM 0)) (cm 1 (am zh zi)) zj)))) zk aP)))
def Xg:a3 3 Xf:=a2
abbrev Xi:aU:=⟨8,[(.cell 2 9 U)],dj (ab 998 [.X 1 9 0,.y 2 444444111] 6) (ab 2 [.V (.const (.str [102,114,101,101])),.V (.const (.int .i64 1)),.V (.const (.int .i64 16)),.V (.const (.int .i64 255)),.l 211111 [(5,1),(3,1),(2,1),(0,1)],.M 211111 6 1 [(0,6)],.l 4111 [(0,1)],.A 5 1,.s 4] 6) (ab 6 [.H 9 1,.S 9 2] 4) aP⟩
def Xj:a3 6 Xi:=a2
abbrev It:aU:=a9 74 [0] (nW (ab 0 [.u 0] 0) (ab 7 [.V (.const (.int .i64 2)),.V (.const (.int .i64 2)),.l 1113113313 [(4,1),(1,1)],.K 10 1 1113113313] 2) (e8 9 [.eL 27,.H 10 1,.c2 10,.w 9,.v 9,.e,.K 7 2 4111114,.w 3] [(6,[0,1,2,3,4,5]),(0,[5])] 14) (ed 15 [.eL 27,.H 10 1,.c2 12,.w 15,.v 15,.e,.w 4,.w 5] [af,af,dY,af,af,af,af,af] 62) (ed 21 [.eL 27,.H 10 1,.c2 11,.w 21,.v 21,.e,.w 6,.w 7] [af,af,dY,af,af,af,af,af] 252) (ab 26 [.m 3,.bc .eql 0,.Y,.A 1 2,.f 1,.bc .eql 400,.Z,.Y,.m 5,.bc .eql 0,.Z,.Y,.m 4,.N,.bc .eql 3,.Z,.Y,.m 4,.n 2,.q (.gq 1),.L,.bc .eql 400,.Z,.Y,.m 7,.bc .eql 0,.Z,.Y,.m 6,.N,.bc .eql 3,.Z,.Y,.m 6,.n 2,.q (.gq 1),.L,.N,.bc .eql 3,.Z,.Y,.m 6,.n 2,.q (.gq 1),.L,.n 2,.q (.gq 1),.L,.bc .eql 400,.Z,.b9 0] 1) aP)
def Xh:a3 9 It [(2,[9998])]:=a2
abbrev HU:aU:=⟨25,[(.cell 4 7 U),(.tmp 5)],gr (ab 0 [.X 2 9 0,.X 3 10 1,.y 4 4111114,.i 5 0] 28) (ab 8 [.H 9 2,.H 10 3,.c2 15,.w 8,.v 8,.e,.w 6,.w 7] 208) (bC 13 [.m 7,.bc .neq 0] 208 (ab 15 [.l 4111114 [],.m 7,.v 16,.S 7 4,.w 5] 48)) (bC 17 [.m 6,.N,.bc .eql 0] 80 (ab 20 [.l 4111114 [],.S 7 4,.i 5 23] 48)) (ab 21 [.m 6,.n 0,.q (.gq 7),.h 7,.S 7 4,.i 5 0] 48) aP⟩
def HV:a3 10 HU:=a2
abbrev Rk:bu:=ab 15 [.H 9 2,.H 10 3,.c2 28,.w 15,.v 15,.E,.w 6,.w 7,.w 8] 384
abbrev Rw:bu:=ab 0 [.V dF,.w 9] 896
abbrev RB:bu:=ab 21 [.m 7,.N,.R (ca 24 0)] 29360896
abbrev RC:bu:=ab 24 [.v 24,.v 23,.B .lss] 62915328
abbrev Re:bu:=ab 0 [.V dF,.w 12] 29367040
abbrev Rf:bu:=ab 27 [.m 11,.N,.R (ca 30 0)] 1908413184
abbrev Rg:bu:=ab 30 [.v 30,.v 29,.B .lss] 4055896832
abbrev Rh:bu:=bM 31 bd (dM 2)
abbrev Ri:bu:=ab 31 [.v 30,.D 6 28,.h 6,.K 6 14 111111] 1908429568
abbrev Rj:bu:=ab 33 [.m 12,.F 0 14,.M 1 1 1 [(0,1)],.R (ei 38 1 8 34 37),.w 12] 1908413184
abbrev Rl:bu:=b_ Re (am Rf (cm 2 (eN [8,9,12,22,23,24,28,29,30] (dj Rg Rh (cm 3 (am Ri Rj)) (ab 38 [.v 30,.d .add 1,.w 30] 1908413184))))) (ab 39 [.m 9,.v 12,.p .nf,.M 4 1 1 [(0,1)],.R (ei 43 1 24 40 42),.w 9] 29360896)
abbrev Rm:bu:=am (ab 25 [.v 24,.D 1 22,.L,.w 11] 29362944) Rl
abbrev Rn:bu:=cm 1 Rm
abbrev Ro:bu:=ab 43 [.v 24,.d .add 1,.w 24] 29360896
abbrev Rp:bu:=am Rn Ro
abbrev Rq:bu:=am (bM 25 bd (dM 0)) Rp
abbrev Rr:bu:=am RC Rq
abbrev Rs:bu:=eN [8,9,22,23,24] Rr
abbrev Rt:bu:=cm 0 Rs
abbrev Ru:bu:=am RB Rt
abbrev Rv:bu:=aS 49 (ab 44 [.m 9,.m 8,.v 45,.w 4,.w 5] 48)
abbrev Rx:bu:=am Rv aP
abbrev Ry:bu:=am Ru Rx
abbrev Rz:bu:=am Rw Ry
abbrev RA:bu:=am Rk Rz
abbrev Hi:aU:=a9 47 [4,5] (am (ab 0 [.X 2 9 0,.X 3 10 1,.V dF,.w 4,.i 5 0] 12) RA)
def Hj:a3 11 Hi [(12,[1])]:=a2
abbrev HC:aU:=a9 36 [4,5] (nW (ab 0 [.X 2 9 0,.X 3 10 1,.V dF,.w 4,.i 5 0] 12) (ab 11 [.H 9 2,.H 10 3,.c2 29,.w 11,.v 11,.e,.w 6,.w 7] 192) (bC 16 [.m 7,.bc .neq 0] 192 (ab 18 [.m 7,.V dF,.w 4,.w 5] 48)) (ab 0 [.V dF,.w 8] 320) (am (ab 19 [.P 6 20,.N,.R (ca 25 0)] 58720512) (c7 0 58720512 25 [.v 25,.v 24,.B .lss] (am (ab 26 [.v 25,.D 5 23,.h 5,.K 5 10 11111] 58721536) (ab 28 [.m 8,.F 0 10,.M 1 1 1 [(0,1)],.R (ei 33 1 8 29 32),.w 8] 58720512)) 33 [.v 25,.d .add 1,.w 25])) (aS 31 (ab 34 [.m 8,.w 4,.i 5 0] 48)) aP)
def HD:a3 12 HC:=a2
abbrev V7:aU:=⟨41,[(.cell 4 1 U),(.tmp 5)],fx (ab 0 [.X 2 9 0,.X 3 10 1,.y 4 4,.i 5 0] 28) (ab 9 [.H 9 2,.H 10 3,.c2 29,.w 9,.v 9,.e,.w 6,.w 7] 216) (bC 14 [.m 7,.bc .neq 0] 216 (ab 16 [.l 4 [],.m 7,.v 17,.S 1 4,.w 5] 48)) (bC 18 [.F 0 3,.F 1 3,.a6 .eql] 88 (ab 23 [.l 4 [],.S 1 4,.i 5 0] 48)) (e8 24 [.P 6 20,.F 1 3,.bt 5,.h 5,.K 5 8 11111] [(8,[0,1,2,3,4,5,6,7]),(0,[])] 336) (bC 32 [.F 0 8,.bc .eql (-1)] 336 (ab 35 [.l 4 [],.S 1 4,.i 5 23] 48)) (ab 36 [.m 6,.F 3 8,.c2 30,.S 1 4,.i 5 0] 48) aP⟩
def V8:a3 13 V7:=a2
abbrev RJ:bu:=ab 0 [.V (.const (.str [65])),.l 2131 [(0,1)],.V (.const (.str [66])),.V (.const (.int .i64 120)),.l 2131 [(3,1),(0,1)],.V (.const (.str [67])),.l 2131 [(0,1)],.M 213121312131 4 3 [(8,4),(4,4),(0,4)],.V (.const (.str [82])),.l 213 [(0,1)],.M 213 3 1 [(0,3)],.V (.const (.int .i64 100)),.V (.const (.int .i64 100)),.V (.const (.bool U)),.l 11133 [(3,1),(2,1),(1,1)],.V (.const (.int .i64 1)),.V (.const (.int .i64 200)),.V (.const (.int .i64 210)),.V (.const (.bool U)),.V (.const (.bool U)),.l 11133 [(4,1),(3,1),(2,1),(1,1),(0,1)],.V (.const (.int .i64 2)),.V (.const (.int .i64 500)),.V (.const (.int .i64 500)),.V (.const (.bool U)),.l 11133 [(4,1),(2,1),(1,1),(0,1)],.M 111331113311133 5 3 [(10,5),(5,5),(0,5)],.V (.const (.str [116])),.v 10,.l 11121334 [(7,1),(3,1)],.V (.const (.int .i64 1)),.V (.const (.int .i64 260)),.V (.const (.int .i64 260)),.V (.const (.bool U)),.l 11133 [(3,1),(2,1),(1,1),(0,1)],.V (.const (.int .i64 2)),.V (.const (.int .i64 400)),.V (.const (.int .i64 400)),.V (.const (.bool U)),.l 11133 [(4,1),(2,1),(1,1),(0,1)],.M 1113311133 5 2 [(5,5),(0,5)],.V (.const (.str [117])),.v 14,.l 11121334 [(7,1),(3,1)],.v 11,.v 15,.M 1112133411121334 8 2 [(8,8),(0,8)],.V (.const (.int .i64 1)),.V (.const (.int .i64 1)),.l 11113 [(2,1),(1,1)],.M 11113 5 1 [(0,5)],.V (.const (.str [112])),.V (.const (.int .i64 150)),.V (.const (.int .i64 1)),.V (.const (.int .i64 1)),.V (.const (.int .i64 1)),.l 211111 [(5,1),(3,1),(2,1),(1,1),(0,1)],.M 211111 6 1 [(0,6)],.l 4111 [(0,1)],.v 4,.v 6,.v 16,.v 18,.v 21,.l 444444111 [(5,4),(3,1),(2,1),(1,1),(0,1)],.S 9 0] 1
abbrev Iu:aU:=⟨23,[(.cell 0 9 U)],b_ (ab 0 [.y 0 444444111] 1) RJ aP⟩
def Xk:a3 27 Iu:=a2
abbrev Ho:aU:=a9 142 [4,5,6] (fx (ab 0 [.X 2 9 0,.X 3 10 1,.V (.const .db),.w 4,.V dF,.w 5,.i 6 0] 12) (am (ab 16 [.H 9 2,.H 10 3,.c2 56,.w 7] 140) (bC 19 [.m 7,.bc .neq 0] 140 (ab 21 [.m 7,.V (.const .db),.w 4,.V dF,.w 5,.w 6] 112))) (ab 23 [.H 9 2,.H 10 3,.c2 31,.w 23,.v 23,.e,.K 9 8 444444111,.w 9] 264) (am (ab 29 [.H 9 8,.c1 57,.w 29,.v 29,.e,.w 10,.w 11] 2312) (bC 33 [.m 11,.bc .neq 0] 2312 (ab 35 [.m 11,.V (.const .db),.w 4,.V dF,.w 5,.w 6] 112))) (e8 36 [.H 9 8,.F 2 8,.N,.c1 58,.F 2 8,.N,.v 44,.q (.oT (.slice [] .nil) 24),.l 444444111444444 [(14,1),(11,1),(0,9)],.R (q4 47 15 46),.w 12] [(8,[0,1,2,3,4]),(1,[])] 4360) (am (ab 47 [.F 3 8,.N,.R (ca 51 0)] 3940649673953544) (c7 0 3940649673953544 51 [.v 51,.v 50,.B .lss] (am (ab 52 [.m 51,.v 51,.D 5 49,.h 5,.y 14 11113,.v 53,.w 13,.S 5 14] 3940649673978120) (e8 55 [.P 12 14,.F 0 14,.P 12 14,.F 0 14,.bt 1,.L,.m 13,.M 1 1 1 [(0,1)],.R (ei 72 1 8 69 71),.v 61,.D 1 59,.s 1] [(16,[0,1,2,3,4,5]),(1,[])] 3940649673953544)) 73 [.v 51,.d .add 1,.w 51])) (am (ab 74 [.F 0 8,.N,.R (ca 78 0)] 453347182355485940519176) (c7 2 453347182355485940519176 78 [.v 78,.v 77,.B .lss] (ab 79 [.m 12,.P 12 10,.V (.const (.int .i64 (-1))),.V (.const (.int .i64 (-1))),.V (.const (.int .i64 (-1))),.V (.const (.int .i64 (-1))),.V (.const (.int .i64 (-1))),.V (.const (.int .i64 (-1))),.l 111111 [(5,1),(4,1),(3,1),(2,1),(1,1),(0,1)],.M 111111 6 1 [(0,6)],.R (ei 87 6 48 84 86),.v 80,.C,.a 10,.s 1] 453347182355485940519176) 89 [.v 78,.d .add 1,.w 78])) (fx (ab 90 [.F 2 3,.w 15] 37128) (cK 92 [.dH 9 3] 37128 (ab 94 [.m 15,.F 0 8,.F 0 3,.bt 4,.f 3,.B .add,.w 15] 36872)) (ab 103 [.m 12,.F 0 3,.F 2 3,.m 15,.c 59 [ai 104,ai 106,ai 108,ai 109,f9 (-1)]] 4104) (ab 110 [.m 12,.F 0 3,.F 2 3,.c 60 [ai 111,ai 113,ai 115,f9 (-1)]] 4104) (ab 116 [.m 12,.C,.a 10,.p .nY,.M 4 1 1 [(0,1)],.w 16] 69640) (am (ab 121 [.F 4 3,.R (ca 124 0)] 31901471898837980949691369446728339456) (c7 4 31901471898837980949691369446728339456 124 [.v 124,.v 123,.a6 .lss] (am (ab 125 [.m 12,.P 12 10,.c2 61] 31901471898837980949691369446728339456) (ab 131 [.m 16,.m 12,.C,.a 10,.p .nY,.M 4 1 1 [(0,1)],.R (ei 138 1 24 132 137),.w 16] 31901471898837980949691369446728339456)) 138 [.v 124,.d .add 1,.w 124])) (ab 139 [.m 12,.m 16,.v 140,.w 4,.w 5,.i 6 0] 112) aP))
def Hp:a3 28 Ho [(8,[9998,5008]),(12,[9998]),(23,[3]),(27,[4])]:=a2
abbrev HG:aU:=a9 72 [4,5] (am (ab 0 [.X 2 9 0,.X 3 10 1,.V (.const .db),.w 4,.i 5 0] 12) (.scope 0 [9,10] (am (am (bS [hK 16 9 2,hK 17 10 3,i0 18 62 [ai 16,ai 17],a5 6 18] [2,3,6]) (am (bS [a5 19 6,sB 20 .neq 19 0] [2,3,6,20]) (bM 20 (am (bS [a5 21 6,xF 4 (.const .db),a5 5 21] [4,5]) aP) bd))) (am (bS [hK 23 9 2,hK 24 10 3,i0 25 31 [ai 23,ai 24],a5 22 25,j3 26 22 0,j3 27 22 1,k_ 7 [g9,g9,g9,g9,g9,g9,v0,v0,v0],jR 9 7 26,a5 8 27] [3,7]) (am (bS [hK 28 9 7,hK 29 10 3,i0 30 63 [ai 28,ai 29],a5 9 30] [7,9]) (am (bS [hK 32 9 7,i0 33 64 [ai 32],a5 31 33,j3 34 31 0,j3 35 31 1,a5 10 34,a5 11 35] [9,10,11]) (am (am (bS [a5 36 11,sB 37 .neq 36 0] [9,10,11,37]) (bM 37 (am (bS [a5 38 11,xF 4 (.const .db),a5 5 38] [4,5]) aP) bd)) (am .label (am (am (bS [ca 12 0] [9,10,12]) (cm 0 (eN [9,10,12] (am (am (bS [a5 39 12,a5 40 10,lM 41 40,o0 42 .lss 39 41] [9,10,12,42]) (bM 42 bd (dM 0))) (cm 1 (am (bS [a5 43 10,a5 44 10,a5 45 12,i1 46 6 44 45,cQ 47 4 46,dy 48 47,i0 49 65 [ai 43,ai 48],a5 13 49] [9,10,12,13]) (am (bS [a5 50 9,j2 51 50,cQ 52 23 51,q3 (.store 1 (ai 52) mK)] [9,10,12,13]) (am (am (bS [a5 53 10,a5 54 12,a5 55 13,dc 56 (.slice 6 (ai 53) (I (ai 54)) (I (ai 55)) ag),lM 57 56,ca 58 0] [9,10,12,13,56,57,58]) (cm 2 (eN [9,10,12,13,56,57,58] (am (bS [q2 59 .lss 58 57] [9,10,12,13,56,57,58,59]) (am (bM 59 bd (dM 2)) (am (cm 3 (am (bS [i1 60 6 56 58,hK 61 6 60,k_ 15 [v0,v0,v0,v0,v0,v0],jR 6 15 61] [9,10,12,13,15,56,57,58]) (bS [a5 62 9,hK 63 6 15,i0 64 66 [ai 62,ai 63]] [9,10,12,13,56,57,58]))) (bS [iH 65 .add 58 1,a5 58 65] [9,10,12,13,56,57,58]))))))) (am (am (bS [a5 66 9,j2 67 66,cQ 68 23 67,m8 69 68] [9,10,12,13,69]) (bM 69 (dM 1) bd)) (bS [a5 70 13,a5 12 70] [9,10,12])))))))))) (am (bS [a5 71 9,a5 4 71,ca 5 0] [4,5]) aP)))))))) (am bd (am (am (bS [ca 12 0] [9,10,12]) (cm 0 (eN [9,10,12] (am (am (bS [a5 39 12,a5 40 10,lM 41 40,o0 42 .lss 39 41] [9,10,12,42]) (bM 42 bd (dM 0))) (cm 1 (am (bS [a5 43 10,a5 44 10,a5 45 12,i1 46 6 44 45,cQ 47 4 46,dy 48 47,i0 49 65 [ai 43,ai 48],a5 13 49] [9,10,12,13]) (am (bS [a5 50 9,j2 51 50,cQ 52 23 51,q3 (.store 1 (ai 52) mK)] [9,10,12,13]) (am (am (bS [a5 53 10,a5 54 12,a5 55 13,dc 56 (.slice 6 (ai 53) (I (ai 54)) (I (ai 55)) ag),lM 57 56,ca 58 0] [9,10,12,13,56,57,58]) (cm 2 (eN [9,10,12,13,56,57,58] (am (bS [q2 59 .lss 58 57] [9,10,12,13,56,57,58,59]) (am (bM 59 bd (dM 2)) (am (cm 3 (am (bS [i1 60 6 56 58,hK 61 6 60,k_ 15 [v0,v0,v0,v0,v0,v0],jR 6 15 61] [9,10,12,13,15,56,57,58]) (bS [a5 62 9,hK 63 6 15,i0 64 66 [ai 62,ai 63]] [9,10,12,13,56,57,58]))) (bS [iH 65 .add 58 1,a5 58 65] [9,10,12,13,56,57,58]))))))) (am (am (bS [a5 66 9,j2 67 66,cQ 68 23 67,m8 69 68] [9,10,12,13,69]) (bM 69 (dM 1) bd)) (bS [a5 70 13,a5 12 70] [9,10,12])))))))))) (am (bS [a5 71 9,a5 4 71,ca 5 0] [4,5]) aP)))))
def HH:a3 29 HG:=a2
abbrev V9:aU:=⟨91,[(.cell 4 1 U)],am (ab 0 [.y 4 4] 19) (fx (ab 0 [.V dF,.w 5] 51) (e9 0 51 8 [.m 1,.bc .neq (-1)] (ab 18 [.m 5,.P 0 19,.x 10 1,.a 0,.h 9,.M 311111113 9 1 [(0,9)],.R (ei 29 9 72 19 28),.w 5] 51) 10 [.P 0 19,.x 10 1,.f 9,.w 1]) (ab 29 [.m 5,.N,.v 31,.q (.makeSlice [eR,v0,v0,v0,v0,v0,v0,v0,eR] 9 72),.w 6] 112) (ab 32 [.m 6,.m 5,.q (.copy 9)] 112) (am (ab 35 [.m 5,.N,.R (ca 38 0)] 412316860528) (c7 2 412316860528 38 [.v 38,.v 37,.B .lss] (am (ab 39 [.m 38,.w 7] 412316860656) (ab 40 [.m 6,.m 5,.N,.d .sub 1,.m 7,.B .sub,.m 5,.x 9 7,.h 9,.v 46,.D 9 41,.s 9] 412316860528)) 51 [.v 38,.d .add 1,.w 38])) (cK 52 [.m 6,.N,.bc .gtr 1,.Y,.m 6,.n 0,.q (.gq 9),.hV 0,.T,.Z] 80 (am (ab 62 [.m 6,.n 0,.q (.gq 9),.w 8] 336) (e8 64 [.m 8,.m 8,.m 6,.n 1,.q (.gq 9),.f 6,.P 8 7,.P 8 6,.B .sub,.B .sub,.m 6,.n 1,.q (.gq 9),.f 6,.v 65,.C,.a 6,.v 80,.o 1,.v 66,.C,.a 7,.s 1] [(22,[1]),(2,[])] 80))) (ab 88 [.m 6,.l 4 [(0,1)],.S 1 4] 16) aP)⟩
def V_:a3 30 V9:=a2
abbrev Hm:aU:=a9 14 [4] (el (ab 0 [.X 2 9 0,.X 3 10 1,.i 4 0] 12) (am (ab 5 [.H 9 2,.H 10 3,.c2 32,.w 5] 40) (bC 8 [.m 5,.bc .neq 0] 40 (ab 10 [.m 5,.w 4] 16))) (bC 11 [.dH 3 3] 0 (ab 0 [.i 4 22] 16)) (ab 0 [.i 4 0] 16) aP)
def Hn:a3 56 Hm:=a2
abbrev GB:aU:=a9 60 [2,3] (gr (ab 998 [.X 1 9 0,.V dF,.w 2,.i 3 0] 2) (bC 9 [.H 9 1,.aD 107,.T] 2 (ab 0 [.V dF,.w 2,.i 3 21] 12)) (ab 3 [.g (.lL 0)] 18) (am (ab 12 [.H 9 1,.c1 108,.N,.R (ca 16 0)] 114706) (c7 0 114706 16 [.v 16,.v 15,.B .lss] (dj (ab 17 [.v 16,.D 1 14,.L,.w 6] 114770) (ab 0 [.u 7] 114898) (am (ab 19 [.m 4,.N,.R (ca 22 0)] 7454930) (c7 2 7454930 22 [.v 22,.v 21,.B .lss] (b_ (ab 23 [.m 22,.v 22,.D 1 20,.L,.v 24,.w 8,.w 9] 7455698) (ed 26 [.F 2 1,.m 9,.m 9,.N,.d .sub 1,.bt 1,.L,.bt 8,.h 8,.F 2 1,.x 8 6,.h 8,.ba 109] [af,af,af,af,af,af,af,af,af,af,af,af,af,af,af,dY] 4398053966802) (bM 42 (b_ (ab 42 [.m 4,.m 8,.m 9,.m 6,.M 1 1 1 [(0,1)],.R (ei 48 1 8 45 47),.v 44,.D 1 43,.s 1] 114770) (ab 0 [.t 7] 114898) (dM 2)) bd)) 49 [.v 22,.d .add 1,.w 22])) (cK 50 [.fX 7,.T] 114770 (ab 52 [.m 4,.m 6,.g (.mf [v0] 1 [(0,(1,(ai 54)))]),.g (.mf [g9] 1 [(0,(1,(ai 55)))]),.R (ei 57 1 24 53 56),.w 4] 114706))) 57 [.v 16,.d .add 1,.w 16])) (aS 60 (ab 58 [.m 4,.w 2,.i 3 0] 12)) aP)
def GC:a3 57 GB [(3,[0,5000]),(16,[5002,5003])]:=a2
abbrev xe:aU:=a9 18 [2] (el (ab 0 [.V dF,.w 2] 1) (ab 4 [.m 0,.v 5,.q (.makeSlice [v0,v0,eR] 3 24),.w 3] 8) (am (ab 6 [.m 3,.N,.R (ca 9 0)] 776) (c7 0 776 9 [.v 9,.v 8,.B .lss] (am (ab 10 [.m 9,.w 4] 792) (ab 11 [.m 3,.m 4,.V (.const (.int .i64 (-1))),.V (.const (.int .i64 (-1))),.l 113 [(1,1),(0,1)],.v 13,.D 3 12,.s 3] 776)) 15 [.v 9,.d .add 1,.w 9])) (ab 16 [.m 3,.w 2] 4) aP)
def z_:a3 58 xe:=a2
abbrev zl:bu:=aS 9 (cK 37 [.P 10 2,.bc .eql (-1),.O,.m 3,.P 10 2,.a6 .lss,.Z] 1048 (ab 50 [.m 10,.m 10,.m 3,.m 4,.v 51,.C,.a 2,.v 53,.o 1,.v 52,.C,.a 5,.s 1] 0))
abbrev z9:aU:=a9 59 [] (b_ (ab 10 [.P 0 10,.x 6 1,.w 10] 1052) (cK 16 [.P 10 0,.bc .eql (-1),.O,.m 2,.P 10 0,.a6 .lss,.Z] 1052 (ab 29 [.m 10,.m 10,.m 2,.m 4,.v 30,.C,.a 0,.v 32,.o 1,.v 31,.C,.a 3,.s 1] 1048)) zl)
def Hv:a3 59 z9:=a2
abbrev HA:aU:=a9 49 [] (am (ab 10 [.m 0,.C,.a 0,.f 4,.N,.R (ca 17 0)] 229391) (c7 0 229391 17 [.v 17,.v 16,.B .lss] (b_ (ab 18 [.v 17,.D 4 15,.h 4,.K 4 9 1113] 229903) (ab 20 [.m 2,.F 2 9,.B .add,.w 10] 230927) (cK 24 [.F 0 9,.m 1,.a6 .eql,.Y,.m 10,.bc .leq 3155932800,.Z] 230927 (e8 32 [.m 0,.F 1 9,.m 10,.m 10,.m 0,.m 1,.F 1 9,.m 2,.m 10,.l 311111113 [(7,1),(6,1),(5,1),(4,1)],.m 3,.c3 110,.c 59 [ai 33,ai 35,ai 36,ai 37,ai 46]] [(13,[0,1,2,3,4]),(0,[])] 229391))) 47 [.v 17,.d .add 1,.w 17]))
def HB:a3 60 HA [(5,[9999])]:=a2
abbrev RK:bu:=am (eh 159 [.F 1 12,.bc .neq (-1),.Y,.m 1,.x 6 11,.f 1,.bc .eql (-1),.O,.F 1 12,.m 1,.x 6 11,.f 1,.a6 .lss,.Z,.Z] 1532495620791759649892100366414323472790466759617419267) (bM 180 (am (ed 180 [.m 0,.m 11,.F 1 12,.F 1 12,.m 0,.C,.a 0,.f 0,.x 4 11,.f 3,.B .add,.F 4 12,.c 59 [ai 181,ai 182,ai 184,ai 196,ai 198]] [af,af,af,af,af,af,af,af,af,af,af,af,af,af,af,af,af,af,dY] 79925870791533753339264014289171727637433817091) (ab 199 [.m 0,.m 11,.F 1 12,.F 4 12,.c 60 [ai 200,ai 201,ai 203,ai 205]] 79925870791533753339264014289171727637433810947)) bd)
abbrev Hw:aU:=a9 208 [] (b_ (ab 12 [.m 0,.m 1,.N,.v 15,.q (.makeSlice [v0,v0,v0,v0,v0,v0] 6 48),.v 13,.C,.a 10,.s 1] 3) (ab 18 [.P 0 10,.m 1,.q (.copy 6)] 3) (fx (ab 24 [.P 0 11,.w 4] 19) (ab 28 [.m 0,.m 4,.N,.c1 58,.v 29,.C,.a 11,.s 1] 19) (ab 34 [.m 0,.m 4,.N,.c1 58,.v 35,.C,.a 12,.s 1] 19) (ab 40 [.m 0,.C,.a 13,.G (.store 1 (ai 43) dF)] 19) (am (ab 43 [.m 0,.C,.a 0,.f 2,.N,.R (ca 50 0)] 1970324836974611) (c7 0 1970324836974611 50 [.v 50,.v 49,.B .lss] (dj (ab 51 [.m 50,.v 50,.D 8 48,.h 8,.y 6 11121334,.v 52,.w 5,.S 8 6] 1970324836974707) (cK 54 [.m 4,.x 3 5,.f 0,.bc .neq (-1)] 1970324836974707 (ab 60 [.m 0,.m 5,.m 4,.x 3 5,.h 3,.c3 111] 1970324836974707)) (ab 67 [.F 7 6,.N,.R (ca 71 0)] 4132072642835776536627) (c7 2 4132072642835776536627 71 [.v 71,.v 70,.B .lss] (b_ (ab 72 [.m 71,.v 71,.D 5 69,.h 5,.y 8 11133,.v 73,.w 7,.S 5 8] 4132072642835776537011) (ab 75 [.m 1,.F 0 8,.bt 6,.h 6,.K 6 9 111111] 4132072642835776537523) (cK 80 [.dH 3 8,.Y,.F 2 9,.bc .neq (-1),.Z,.Y,.F 2 9,.F 2 8,.a6 .leq,.Z,.Y,.P 0 12,.x 3 5,.h 3,.m 7,.ba 112,.Z] 4132072642835776537267 (ab 105 [.m 0,.m 5,.m 7,.F 5 9,.l 113 [(1,1),(0,1)],.c3 111] 4132072642835776536627))) 112 [.v 71,.d .add 1,.w 71])) 113 [.v 50,.d .add 1,.w 50])) (cm 4 (eN [0,1] (am (qt 114 [.P 0 13,.N,.bc .gtr 0] 3 4) (cm 5 (b_ (eh 120 [.P 0 13,.P 0 13,.N,.d .sub 1,.bt 1,.L,.w 10] 1027) (ed 132 [.m 0,.P 0 13,.P 0 13,.N,.d .sub 1,.g (.slice 1 (ai 137) ag (I (ai 143)) ag),.v 133,.C,.a 13,.s 1] [af,af,af,af,af,af,af,af,af,af,af,af,af,af,dY] 1027) (ab 146 [.m 0,.m 10,.c2 113] 3)))))) (ab 149 [.P 0 10,.N,.R (ca 155 0)] 79925870791533753339264014289171727637433810947) (c7 6 79925870791533753339264014289171727637433810947 155 [.v 155,.v 154,.B .lss] (am (ab 156 [.m 155,.v 155,.D 6 153,.h 6,.y 12 111111,.v 157,.w 11,.S 6 12] 79925870791533753339264014289171727637433817091) RK) 206 [.v 155,.d .add 1,.w 155])))
def Hx:a3 61 Hw:=a2
abbrev HE:aU:=a9 14 [4] (el (ab 0 [.X 2 9 0,.X 3 10 1,.i 4 0] 12) (am (ab 5 [.H 9 2,.H 10 3,.c2 32,.w 5] 40) (bC 8 [.m 5,.bc .neq 0] 40 (ab 10 [.m 5,.w 4] 16))) (bC 11 [.dH 3 3] 0 (ab 0 [.i 4 22] 16)) (ab 0 [.i 4 0] 16) aP)
def HF:a3 62 HE:=a2
abbrev RL:bu:=ab 37 [.m 5,.P 5 21,.V (.const (.int .i64 (-1))),.V (.const (.int .i64 (-1))),.l 113 [(1,1),(0,1)],.M 113 3 1 [(0,3)],.R (ei 45 3 24 42 44),.v 38,.C,.a 21,.s 1] 103079215148
abbrev RM:bu:=cm 3 RL
abbrev HS:aU:=a9 103 [4] (dj (ab 0 [.X 2 9 0,.X 3 10 1,.V (.const .db),.w 4] 12) (e8 8 [.H 9 2,.H 10 3,.F 2 2,.N,.v 13,.q (.oT (.slice [] .nil) 24),.l 444444111111311331344443 [(22,1),(9,10),(0,9)],.R (q4 16 24 15),.w 5] [(5,[0,1]),(1,[])] 44) (am (ab 16 [.F 0 2,.N,.R (ca 20 0)] 1572908) (c7 0 1572908 20 [.v 20,.v 19,.B .lss] (ab 21 [.m 5,.P 5 20,.V (.const (.int .i64 (-1))),.V (.const (.int .i64 (-1))),.V (.const (.int .i64 (-1))),.V (.const (.int .i64 (-1))),.V (.const (.int .i64 (-1))),.l 11111 [(4,1),(3,1),(2,1),(1,1),(0,1)],.M 11111 5 1 [(0,5)],.R (ei 29 5 40 26 28),.v 22,.C,.a 20,.s 1] 1572908) 31 [.v 20,.d .add 1,.w 20])) (fx (am (ab 32 [.F 2 2,.N,.R (ca 36 0)] 103079215148) (cm 2 (eN [2,3,5,35,36] (dj (ab 36 [.v 36,.v 35,.B .lss] 240518168620) (bM 37 bd (dM 2)) RM (ab 47 [.v 36,.d .add 1,.w 36] 103079215148))))) (am (ab 48 [.F 3 2,.N,.R (ca 52 0)] 7881299347898412) (c7 4 7881299347898412 52 [.v 52,.v 51,.B .lss] (am (ab 53 [.m 52,.v 52,.D 5 50,.h 5,.y 7 11113,.v 54,.w 6,.S 5 7] 7881299347898604) (e8 56 [.P 5 22,.F 0 7,.P 5 22,.F 0 7,.bt 1,.L,.m 6,.M 1 1 1 [(0,1)],.R (ei 73 1 8 70 72),.v 62,.D 1 60,.s 1] [(16,[0,1,2,3,4,5]),(1,[])] 7881299347898412)) 74 [.v 52,.d .add 1,.w 52])) (ab 75 [.F 2 3,.w 8] 300) (cK 77 [.dH 9 3] 300 (ab 79 [.m 8,.F 0 2,.F 0 3,.bt 4,.f 3,.B .add,.w 8] 296)) (ab 88 [.m 5,.F 0 3,.F 2 3,.c 114 [ai 89,ai 91,ai 93,f9 (-1)]] 296) (ab 94 [.m 5,.F 0 3,.F 2 3,.m 8,.c 115 [ai 95,ai 97,ai 99,ai 100,f9 (-1)]] 32) (ab 101 [.m 5,.w 4] 16) aP))
def HT:a3 63 HS [(1,[5005])]:=a2
abbrev Fl:aU:=a9 68 [2,3] (am (ab 998 [.X 1 9 0,.V dF,.w 2,.i 3 0] 2) (.scope 0 [1,7] (am (bS [hK 14 9 1,i0 15 37 [ai 14],a5 13 15,j3 16 13 0,j3 17 13 1,j3 18 13 2,a5 4 16,a5 5 17,a5 6 18] [1,6]) (am (am (bS [a5 19 6,sB 20 .neq 19 0] [1,20]) (bM 20 (am (bS [xF 2 dF,ca 3 21] [2,3]) aP) bd)) (am (bS [xF 7 dF] [1,7]) (am .label (am (am (bS [cQ 21 2 1,dy 22 21,lM 23 22,ca 24 0] [7,22,23,24]) (cm 0 (eN [7,22,23,24] (am (bS [q2 25 .lss 24 23] [7,22,23,24,25]) (am (bM 25 bd (dM 0)) (am (cm 1 (am (bS [a5 26 24,i1 27 8 22 24,hK 28 8 27,k_ 9 [v0,v0,v0,.str [],v0,eR,eR,g9],a5 8 26,jR 8 9 28] [7,8,9,22,23,24]) (am (am (bS [cQ 29 6 9,m8 30 29] [7,8,9,22,23,24,30]) (bM 30 (dM 1) bd)) (am (bS [cQ 31 7 9,dy 32 31,lM 33 32,iH 34 .sub 33 1,ca 35 0] [7,8,9,22,23,24,34,35]) (cm 2 (eN [7,8,9,22,23,24,34,35] (am (bS [o0 36 .lss 35 34] [7,8,9,22,23,24,34,35,36]) (am (bM 36 bd (dM 2)) (am (cm 3 (am (bS [a5 37 35,a5 10 37] [7,8,9,10,22,23,24,34,35]) (am (.float [cQ 38 7 9,dy 39 38,a5 40 10,i1 41 5 39 40,hK 42 5 41,cQ 43 7 9,dy 44 43,a5 45 10,iH 46 .add 45 1,i1 47 5 44 46,hK 48 5 47,k_ 11 [v0,v0,v0,eR,eR],k_ 12 [v0,v0,v0,eR,eR],jR 5 11 42,jR 5 12 48] [iG,iG,iG,iG,iG,iG,iG,iG,iG,iG,iG,(I [0,1,2,3,4,5,6,7,8,9,10]),(I [0,1,2,3,4,5,6,7,8,9,10]),(I [5,6,7,8,9,10]),(I [])] [7,8,9,10,11,12,22,23,24,34,35]) (bS [a5 49 7,a5 50 8,a5 51 10,cQ 52 0 11,dy 53 52,cQ 54 0 12,dy 55 54,cQ 56 2 11,dy 57 56,cQ 58 1 12,dy 59 58,dc 60 (.build [v0,v0,v0,v0,v0,v0] [(0,(1,(ai 50))),(1,(1,(ai 51))),(2,(1,(ai 53))),(3,(1,(ai 55))),(4,(1,(ai 57))),(5,(1,(ai 59)))]),dc 61 (.buildSlice [v0,v0,v0,v0,v0,v0] 6 1 [(0,(6,(ai 60)))]),ei 62 6 48 49 61,a5 7 62] [7,8,9,22,23,24,34,35])))) (bS [iH 63 .add 35 1,a5 35 63] [7,8,9,22,23,24,34,35])))))))))) (bS [iH 64 .add 24 1,a5 24 64] [7,22,23,24]))))))) (am (bS [a5 65 7,i0 66 116 [ai 65,.const (.cI 117 [])]] [7]) (am (aS 56 (bS [a5 67 7,a5 2 67,ca 3 0] [2,3])) aP))))))) (am bd (am (am (bS [cQ 21 2 1,dy 22 21,lM 23 22,ca 24 0] [7,22,23,24]) (cm 0 (eN [7,22,23,24] (am (bS [q2 25 .lss 24 23] [7,22,23,24,25]) (am (bM 25 bd (dM 0)) (am (cm 1 (am (bS [a5 26 24,i1 27 8 22 24,hK 28 8 27,k_ 9 [v0,v0,v0,.str [],v0,eR,eR,g9],a5 8 26,jR 8 9 28] [7,8,9,22,23,24]) (am (am (bS [cQ 29 6 9,m8 30 29] [7,8,9,22,23,24,30]) (bM 30 (dM 1) bd)) (am (bS [cQ 31 7 9,dy 32 31,lM 33 32,iH 34 .sub 33 1,ca 35 0] [7,8,9,22,23,24,34,35]) (cm 2 (eN [7,8,9,22,23,24,34,35] (am (bS [o0 36 .lss 35 34] [7,8,9,22,23,24,34,35,36]) (am (bM 36 bd (dM 2)) (am (cm 3 (am (bS [a5 37 35,a5 10 37] [7,8,9,10,22,23,24,34,35]) (am (.float [cQ 38 7 9,dy 39 38,a5 40 10,i1 41 5 39 40,hK 42 5 41,cQ 43 7 9,dy 44 43,a5 45 10,iH 46 .add 45 1,i1 47 5 44 46,hK 48 5 47,k_ 11 [v0,v0,v0,eR,eR],k_ 12 [v0,v0,v0,eR,eR],jR 5 11 42,jR 5 12 48] [iG,iG,iG,iG,iG,iG,iG,iG,iG,iG,iG,(I [0,1,2,3,4,5,6,7,8,9,10]),(I [0,1,2,3,4,5,6,7,8,9,10]),(I [5,6,7,8,9,10]),(I [])] [7,8,9,10,11,12,22,23,24,34,35]) (bS [a5 49 7,a5 50 8,a5 51 10,cQ 52 0 11,dy 53 52,cQ 54 0 12,dy 55 54,cQ 56 2 11,dy 57 56,cQ 58 1 12,dy 59 58,dc 60 (.build [v0,v0,v0,v0,v0,v0] [(0,(1,(ai 50))),(1,(1,(ai 51))),(2,(1,(ai 53))),(3,(1,(ai 55))),(4,(1,(ai 57))),(5,(1,(ai 59)))]),dc 61 (.buildSlice [v0,v0,v0,v0,v0,v0] 6 1 [(0,(6,(ai 60)))]),ei 62 6 48 49 61,a5 7 62] [7,8,9,22,23,24,34,35])))) (bS [iH 63 .add 35 1,a5 35 63] [7,8,9,22,23,24,34,35])))))))))) (bS [iH 64 .add 24 1,a5 24 64] [7,22,23,24]))))))) (am (bS [a5 65 7,i0 66 116 [ai 65,.const (.cI 117 [])]] [7]) (am (bS [a5 67 7,a5 2 67,ca 3 0] [2,3]) aP))))))
def Fm:a3 64 Fl:=a2
abbrev Fo:aU:=a9 9 [4] (b_ (ab 0 [.X 2 1 0,.X 3 1 1,.i 4 0] 12) (ab 4 [.v 2,.L,.N,.g (.jQ 119 [ai 2,ai 3]),.c2 118,.w 4] 16) aP)
def Fr:a3 65 Fo:=a2
abbrev DP:bu:=aS 11 (e8 54 [.P 0 21,.F 0 3,.bt 3,.h 3,.K 3 6 113] [(8,[0,1,2,3,4,5,6,7]),(0,[])] 89)
abbrev DQ:bu:=cK 62 [.F 0 6,.bc .eql (-1),.O,.F 0 6,.F 1 3,.a6 .gtr,.Z] 89 aP
abbrev DR:bu:=ab 72 [.m 4,.F 1 3,.d .add 1,.bt 5,.hV 4,.b9 7] 217
abbrev DS:bu:=am (eh 79 [.fX 7,.T,.Y,.P 0 22,.F 0 3,.bt 1,.L,.N,.bc .eql 0,.Z] 9903520314283042199192994009) (bM 93 aP bd)
abbrev DT:bu:=ed 93 [.m 0,.F 0 3,.F 0 6,.F 1 3,.d .add 1,.m 4,.F 0 6,.bt 5,.f 0,.F 3 3,.m 4,.F 0 6,.bt 5,.f 2,.F 5 3,.dH 2 6,.V (.const (.bool U)),.v 96,.v 98,.v 101,.v 107,.v 109,.v 115,.v 117,.v 119,.l 311111113 [(8,1),(7,1),(6,1),(5,1),(4,1),(3,1),(2,1),(1,1),(0,1)],.F 1 6,.v 94,.v 120,.v 122,.c3 121,.w 8] [af,af,af,af,af,af,af,af,af,af,af,af,af,af,af,af,af,af,af,af,af,af,af,af,af,af,af,af,af,dY,af] 393
abbrev DU:bu:=cK 123 [.fX 7] 393 (dj (eh 124 [.P 0 20,.F 3 3,.bt 5,.w 9] 905) (ed 131 [.m 0,.F 3 3,.F 5 3,.F 5 3,.m 0,.C,.a 0,.f 0,.F 3 3,.bt 4,.f 3,.B .add,.m 8,.c 115 [ai 132,ai 134,ai 136,ai 149,ai 150]] [af,af,af,af,af,af,af,af,af,af,af,af,af,af,af,af,af,af,af,dY] 905) (eh 151 [.P 9 1,.bc .eql (-1),.O,.F 5 3,.P 9 1,.a6 .lss,.Z] 46768052394588893382517914646921056628989841376137) (bM 165 (am (ab 165 [.m 9,.F 5 3,.v 166,.C,.a 1,.s 1] 393) (ab 170 [.m 0,.F 3 3,.F 5 3,.m 8,.c 114 [ai 171,ai 173,ai 175,ai 176]] 393)) bd))
abbrev zm:bu:=aS 36 (ab 177 [.m 0,.F 0 3,.F 1 3,.d .add 1,.m 8,.fX 7,.c 122 [ai 178,ai 180,ai 183,ai 184,ai 185]] 0)
abbrev HO:aU:=a9 187 [] (dj (ab 0 [.X 3 6 1] 9) (eh 9 [.m 0,.C,.a 0,.f 2,.F 0 3,.bt 8,.f 7,.w 4] 25) (e8 19 [.P 0 20,.F 2 3,.bt 5,.h 5,.K 5 5 11111] [(8,[0,1,2,3,4,5,6,7]),(0,[])] 57) (fx (cK 27 [.m 4,.F 1 3,.bt 5,.hV 3,.Y,.F 2 5,.bc .neq (-1),.Z,.Y,.F 2 5,.F 4 3,.a6 .leq,.Z] 57 (ab 45 [.m 0,.F 0 3,.F 1 3,.F 4 5,.l 113 [(1,1),(0,1)],.c3 120] 25)) DP DQ DR DS DT DU zm))
def HP:a3 66 HO:=a2
abbrev GO:aU:=a9 14 [2] (dj (ab 998 [.X 1 9 0,.u 2] 2) (ab 6 [.H 9 1,.c1 37,.w 6,.v 6,.E,.w 3,.w 4,.w 5] 32) (ab 11 [.m 5,.bc .eql 0,.b9 2] 4) aP)
def GP:a3 107 GO:=a2
abbrev GK:aU:=a9 43 [2] (el (ab 998 [.X 1 9 0,.V dF,.w 2] 2) (ab 0 [.V dF,.w 3] 10) (am (ab 7 [.F 2 1,.N,.R (ca 11 0)] 3594) (c7 0 3594 11 [.v 11,.v 10,.B .lss] (nW (ab 12 [.m 11,.v 11,.D 8 9,.h 8,.y 5 11121334,.v 13,.w 4,.S 8 5] 3642) (cK 15 [.dH 6 5] 3642 (dM 1)) (ab 17 [.F 7 5,.n 0,.q (.gq 5),.f 2,.K 1 6 1] 3674) (ab 22 [.m 3,.g (.jQ 161 [ai 1,ai 6]),.c2 160,.w 7] 3738) (ab 25 [.m 3,.V (.const (.int .i64 0)),.M 1 1 1 [(0,1)],.R (ei 28 1 8 26 27),.w 3] 3738) (ed 28 [.m 3,.m 7,.d .add 1,.g (.slice 1 (ai 29) (I (ai 31)) ag ag),.m 3,.m 7,.g (.slice 1 (ai 33) (I (ai 34)) ag ag),.v 32,.v 35,.q (.copy 1)] [af,af,af,af,af,af,af,dY] 3738) (ab 36 [.m 3,.m 7,.m 4,.v 38,.D 1 37,.s 1] 3594)) 40 [.v 11,.d .add 1,.w 11])) (aS 39 (ab 41 [.m 3,.w 2] 4)) aP)
def GN:a3 108 GK:=a2
abbrev GI:aU:=a9 61 [4] (el (ab 0 [.X 2 8 0,.X 3 8 1,.u 4] 12) (bC 7 [.F 4 2,.F 4 3,.a6 .neq,.O,.dH 5 2,.dH 5 3,.dA (.cp .neq .bool),.Z,.O,.F 7 2,.N,.F 7 3,.N,.a6 .neq,.Z] 12 (ab 0 [.u 4] 16)) (am (ab 28 [.F 7 2,.N,.R (ca 32 0)] 7516192776) (c7 0 7516192776 32 [.v 32,.v 31,.B .lss] (b_ (ab 33 [.m 32,.v 32,.D 5 30,.h 5,.y 6 11133,.v 34,.w 5,.S 5 6] 7516192872) (ab 36 [.F 7 3,.x 5 5,.h 5,.K 5 7 11133] 7516192968) (bC 41 [.H 5 6,.H 5 7,.ba 162,.T,.O,.F 1 7,.F 1 6,.a6 .lss,.Z,.O,.F 2 7,.F 2 6,.a6 .lss,.Z] 7516192776 (ab 0 [.u 4] 16))) 59 [.v 32,.d .add 1,.w 32])) (ab 0 [.t 4] 16) aP)
def GJ:a3 109 GI:=a2
abbrev z8:aU:=a9 25 [6] (dj (ab 0 [.X 4 9 1,.i 6 0] 21) (e8 6 [.m 0,.P 0 9,.H 9 4,.m 2,.l 3111111131 [(9,1),(0,9)],.M 3111111131 10 1 [(0,10)],.R (ei 16 10 80 11 15),.v 7,.C,.a 9,.s 1] [(9,[0]),(2,[])] 1) (ab 18 [.P 0 9,.N,.d .sub 1,.w 6] 64) aP)
def Hq:a3 110 z8:=a2
abbrev Hr:aU:=a9 45 [] (b_ (ab 0 [.X 5 3 2] 35) (ed 5 [.m 0,.C,.a 0,.f 2,.x 8 1,.hV 6,.T,.Y,.P 0 12,.x 3 1,.h 3,.F 0 5,.ba 112,.Z] [af,af,af,af,af,af,af,af,af,af,af,af,af,af,af,af,af,af,af,af,dY,af] 134217763) (bM 27 (am (ed 27 [.P 0 12,.m 1,.H 3 5,.v 32,.D 3 31,.s 3] [af,af,af,af,af,af,af,dY] 3) (ab 34 [.m 0,.P 0 13,.m 1,.M 1 1 1 [(0,1)],.R (ei 42 1 8 39 41),.v 35,.C,.a 13,.s 1] 0)) bd))
def Hs:a3 111 Hr:=a2
abbrev Hk:aU:=a9 14 [4] (b_ (ab 0 [.X 2 3 0,.u 4] 6) (ab 4 [.F 0 2,.bc .eql (-1),.O,.m 1,.F 0 2,.a6 .lss,.Z,.b9 4] 16) aP)
def Hl:a3 112 Hk:=a2
abbrev Hy:aU:=a9 119 [] (.scope 0 [0,1,4,5,6] (gr (bS [a5 11 0,j2 12 11,cQ 13 12 12,dy 14 13,a5 15 1,i1 16 3 14 15,hK 17 3 16,k_ 4 [v0,v0,eR],jR 3 4 17] [0,1,4]) (bS [a5 18 0,j2 19 18,cQ 20 0 19,cQ 21 2 20,dy 22 21,a5 23 1,i1 24 8 22 23,cQ 25 7 24,dy 26 25,a5 5 26] [0,1,4,5]) (bS [a5 27 5,cQ 28 0 4,dy 29 28,i1 30 5 27 29,hK 31 5 30,k_ 6 [v0,v0,v0,eR,eR],jR 5 6 31] [0,1,4,5,6]) .label (bS [cQ 32 0 4,dy 33 32,iH 34 .add 33 1,a5 7 34] [0,1,4,5,6,7]) (cm 0 (eN [0,1,4,5,6,7] (b_ (am (bS [a5 35 7,a5 36 5,lM 37 36,o0 38 .lss 35 37] [0,1,4,5,6,7,38]) (bM 38 bd (dM 0))) (cm 1 (gr (bS [a5 41 5,a5 42 7,i1 43 5 41 42,hK 44 5 43,k_ 8 [v0,v0,v0,eR,eR],jR 5 8 44] [0,1,4,5,6,7,8]) (am (bS [cQ 45 4 8,m8 46 45,JS 47 46,o2 48 47,f5 48 (a5 49 0),f5 48 (j2 50 49),f5 48 (cQ 51 14 50),f5 48 (dy 52 51),f5 48 (a5 53 1),f5 48 (i1 54 1 52 53),f5 48 (dy 55 54),f5 48 (lM 56 55),f5 48 (sB 57 .eql 56 0),xE 58 48 57] [0,1,4,5,6,7,8,58]) (bM 58 (dM 1) bd)) (bS [a5 59 0,a5 60 1,cQ 61 0 4,dy 62 61,a5 63 7,cQ 64 0 6,dy 65 64,cQ 66 0 8,dy 67 66,cQ 68 2 6,dy 69 68,cQ 70 1 8,dy 71 70,cQ 72 2 4,m8 73 72,dc 74 (.build [eR,v0,v0,v0,v0,v0,v0,v0,eR] [(0,(1,(.const (.bool U)))),(1,(1,(ai 60))),(2,(1,(ai 62))),(3,(1,(ai 63))),(4,(1,(ai 65))),(5,(1,(ai 67))),(6,(1,(ai 69))),(7,(1,(ai 71))),(8,(1,(ai 73)))]),cQ 75 1 4,dy 76 75,i0 77 110 [ai 59,ai 74,ai 76],a5 9 77] [0,1,4,5,6,7,8,9]) (bS [a5 78 0,a5 79 1,a5 80 7,a5 81 9,cQ 82 4 8,m8 83 82,i0 84 163 [ai 78,ai 79,ai 80,ai 81,ai 83]] [0,1,4,5,6,7,8,9]) (tU [a5 85 0,j2 86 85,cQ 87 10 86,dy 88 87,cQ 89 0 8,dy 90 89,i1 91 6 88 90,a5 10 91] [af,af,af,af,af,af,af,af] [0,1,4,5,6,7,8,9,10]) (am (tU [cQ 92 4 8,m8 93 92,o2 94 93,f5 94 (a5 95 10),f5 94 (j2 96 95),f5 94 (cQ 97 1 96),f5 94 (dy 98 97),f5 94 (sB 99 .eql 98 (-1)),f5 94 (o2 100 99),lG 100 (cQ 101 1 8),lG 100 (dy 102 101),lG 100 (a5 103 10),lG 100 (j2 104 103),lG 100 (cQ 105 1 104),lG 100 (dy 106 105),lG 100 (o0 107 .lss 102 106),f5 94 (JR 108 100 107),xE 109 94 108] [af,af,af,af,af,af,af,af,af,af,af,af,af,af,af,af,af,af] [0,1,4,5,6,7,8,9,10,109]) (bM 109 (bS [a5 110 10,a5 111 10,cQ 112 1 8,dy 113 112,a5 114 9,j2 115 110,cQ 116 1 115,jR 1 116 113,j2 117 111,cQ 118 4 117,jR 1 118 114] [0,1,4,5,6,7]) bd)))) (bS [a5 39 7,iH 40 .add 39 1,a5 7 40] [0,1,4,5,6,7]))))) (b_ bd (bS [cQ 32 0 4,dy 33 32,iH 34 .add 33 1,a5 7 34] [0,1,4,5,6,7]) (cm 0 (eN [0,1,4,5,6,7] (b_ (am (bS [a5 35 7,a5 36 5,lM 37 36,o0 38 .lss 35 37] [0,1,4,5,6,7,38]) (bM 38 bd (dM 0))) (cm 1 (gr (bS [a5 41 5,a5 42 7,i1 43 5 41 42,hK 44 5 43,k_ 8 [v0,v0,v0,eR,eR],jR 5 8 44] [0,1,4,5,6,7,8]) (am (bS [cQ 45 4 8,m8 46 45,JS 47 46,o2 48 47,f5 48 (a5 49 0),f5 48 (j2 50 49),f5 48 (cQ 51 14 50),f5 48 (dy 52 51),f5 48 (a5 53 1),f5 48 (i1 54 1 52 53),f5 48 (dy 55 54),f5 48 (lM 56 55),f5 48 (sB 57 .eql 56 0),xE 58 48 57] [0,1,4,5,6,7,8,58]) (bM 58 (dM 1) bd)) (bS [a5 59 0,a5 60 1,cQ 61 0 4,dy 62 61,a5 63 7,cQ 64 0 6,dy 65 64,cQ 66 0 8,dy 67 66,cQ 68 2 6,dy 69 68,cQ 70 1 8,dy 71 70,cQ 72 2 4,m8 73 72,dc 74 (.build [eR,v0,v0,v0,v0,v0,v0,v0,eR] [(0,(1,(.const (.bool U)))),(1,(1,(ai 60))),(2,(1,(ai 62))),(3,(1,(ai 63))),(4,(1,(ai 65))),(5,(1,(ai 67))),(6,(1,(ai 69))),(7,(1,(ai 71))),(8,(1,(ai 73)))]),cQ 75 1 4,dy 76 75,i0 77 110 [ai 59,ai 74,ai 76],a5 9 77] [0,1,4,5,6,7,8,9]) (bS [a5 78 0,a5 79 1,a5 80 7,a5 81 9,cQ 82 4 8,m8 83 82,i0 84 163 [ai 78,ai 79,ai 80,ai 81,ai 83]] [0,1,4,5,6,7,8,9]) (tU [a5 85 0,j2 86 85,cQ 87 10 86,dy 88 87,cQ 89 0 8,dy 90 89,i1 91 6 88 90,a5 10 91] [af,af,af,af,af,af,af,af] [0,1,4,5,6,7,8,9,10]) (am (tU [cQ 92 4 8,m8 93 92,o2 94 93,f5 94 (a5 95 10),f5 94 (j2 96 95),f5 94 (cQ 97 1 96),f5 94 (dy 98 97),f5 94 (sB 99 .eql 98 (-1)),f5 94 (o2 100 99),lG 100 (cQ 101 1 8),lG 100 (dy 102 101),lG 100 (a5 103 10),lG 100 (j2 104 103),lG 100 (cQ 105 1 104),lG 100 (dy 106 105),lG 100 (o0 107 .lss 102 106),f5 94 (JR 108 100 107),xE 109 94 108] [af,af,af,af,af,af,af,af,af,af,af,af,af,af,af,af,af,af] [0,1,4,5,6,7,8,9,10,109]) (bM 109 (bS [a5 110 10,a5 111 10,cQ 112 1 8,dy 113 112,a5 114 9,j2 115 110,cQ 116 1 115,jR 1 116 113,j2 117 111,cQ 118 4 117,jR 1 118 114] [0,1,4,5,6,7]) bd)))) (bS [a5 39 7,iH 40 .add 39 1,a5 7 40] [0,1,4,5,6,7]))))))
def Hz:a3 113 Hy:=a2
abbrev HQ:aU:=a9 58 [] (am (ab 10 [.m 0,.C,.a 0,.f 4,.N,.R (ca 17 0)] 229391) (c7 0 229391 17 [.v 17,.v 16,.B .lss] (am (ab 18 [.v 17,.D 4 15,.h 4,.K 4 9 1113] 229903) (cK 20 [.F 0 9,.m 1,.a6 .eql,.Y,.m 2,.F 2 9,.B .add,.bc .leq 3155932800,.Z] 229903 (am (ab 31 [.m 0,.m 1,.F 1 9,.m 2,.m 2,.F 2 9,.B .add,.l 311111113 [(7,1),(6,1),(5,1),(4,1)],.m 3,.c3 121,.w 10] 230927) (ab 43 [.m 0,.F 1 9,.m 2,.F 2 9,.B .add,.m 2,.F 2 9,.B .add,.m 10,.c 115 [ai 44,ai 46,ai 50,ai 54,ai 55]] 229391)))) 56 [.v 17,.d .add 1,.w 17]))
def HR:a3 114 HQ:=a2
abbrev zb:bu:=aS 15 (cK 40 [.P 10 2,.bc .eql (-1),.O,.m 3,.P 10 2,.a6 .lss,.Z] 1049 (am (ab 53 [.m 10,.m 10,.m 3,.m 4,.v 54,.C,.a 2,.v 56,.o 1,.v 55,.C,.a 4,.s 1] 1) (ab 61 [.m 0,.C,.a 23,.G (.store 1 (ai 64) jA)] 0)))
abbrev Ab:aU:=a9 65 [] (b_ (ab 10 [.P 0 20,.x 5 1,.w 10] 1053) (cK 16 [.P 10 0,.bc .eql (-1),.O,.m 2,.P 10 0,.a6 .lss,.Z] 1053 (am (ab 29 [.m 10,.m 10,.m 2,.m 4,.v 30,.C,.a 0,.v 32,.o 1,.v 31,.C,.a 3,.s 1] 1049) (ab 37 [.m 0,.C,.a 23,.G (.store 1 (ai 40) jA)] 1049))) zb)
def HN:a3 115 Ab:=a2
abbrev Fk:aU:=a9 42 [4] (dj (ab 0 [.X 2 6 0,.X 3 6 1,.i 4 0] 12) (am (ab 6 [.F 4 2,.F 4 3,.l 11 [(1,1),(0,1)],.F 5 2,.F 5 3,.l 11 [(1,1),(0,1)],.F 0 2,.F 0 3,.l 11 [(1,1),(0,1)],.F 1 2,.F 1 3,.l 11 [(1,1),(0,1)],.l 11111111 [(6,2),(4,2),(2,2),(0,2)],.R (ca 28 0)] 402653184) (c7 0 402653184 28 [.v 28,.d .lss 4] (b_ (ab 29 [.v 27,.v 28,.q (.oP 4 2 U),.K 2 6 11] 402653248) (bC 30 [.v 6,.n 0,.q (.eM 2 1),.L,.v 6,.n 1,.q (.eM 2 1),.L,.a6 .lss] 402653248 (ab 0 [.i 4 (-1)] 16)) (bC 35 [.v 6,.n 0,.q (.eM 2 1),.L,.v 6,.n 1,.q (.eM 2 1),.L,.a6 .gtr] 402653184 (ab 0 [.i 4 1] 16))) 40 [.v 28,.d .add 1,.w 28])) (ab 0 [.i 4 0] 16) aP)
def UK:a3 117 Fk:=a2
abbrev Fs:aU:=a9 23 [4] (el (ab 0 [.i 4 0] 3) (ab 7 [.m 0,.i 5 0,.w 6] 98) (cm 0 (eN [1,5,6] (am (qt 8 [.m 5,.m 6,.a6 .lss] 98 0) (cm 1 (am (ab 11 [.m 5,.m 6,.B .add,.d .quo 2,.w 7] 226) (wt 15 [.m 1,.m 7,.jN (.fM (ai 16) [ai 17])] 226 (ab 18 [.m 7,.w 6] 98) (ab 19 [.m 7,.d .add 1,.w 5] 98))))))) (ab 21 [.m 5,.w 4] 16) aP)
def Ft:a3 118 Fs:=a2
abbrev Fp:aU:=a9 12 [4] (b_ (ab 0 [.u 4] 7) (eh 4 [.v 1,.L,.x 6 0,.f 4,.v 2,.L,.a6 .gtr,.b9 4] 16) aP)
def Fq:a3 119 Fp:=a2
abbrev HJ:aU:=a9 44 [] (el (ab 0 [.X 5 3 2] 35) (ab 6 [.P 0 21,.x 3 1,.w 6] 99) (am (eh 12 [.m 0,.C,.a 0,.f 2,.x 8 1,.hV 6,.O,.P 6 0,.bc .neq (-1),.Y,.P 6 0,.F 0 5,.a6 .leq,.Z,.Z] 137438953569) (bM 37 aP bd)) (ab 37 [.m 6,.H 3 5,.v 38,.C,.s 3] 1) (ab 40 [.m 0,.C,.a 23,.G (.store 1 (ai 43) jA)] 0))
def HK:a3 120 HJ:=a2
abbrev Aa:aU:=a9 25 [6] (dj (ab 0 [.X 4 9 1,.i 6 0] 21) (e8 6 [.m 0,.P 0 19,.H 9 4,.m 2,.l 3111111131 [(9,1),(0,9)],.M 3111111131 10 1 [(0,10)],.R (ei 16 10 80 11 15),.v 7,.C,.a 19,.s 1] [(9,[0]),(2,[])] 1) (ab 18 [.P 0 19,.N,.d .sub 1,.w 6] 64) aP)
def HI:a3 121 Aa:=a2
abbrev HL:aU:=a9 94 [] (b_ (ab 14 [.m 0,.C,.a 0,.f 2,.x 8 1,.f 7,.x 5 2,.f 1,.w 10] 1055) (ab 27 [.P 0 22,.x 1 1,.L,.N,.R (ca 36 0)] 120259085341) (c7 0 120259085341 36 [.v 36,.v 35,.B .lss] (dj (ab 37 [.v 36,.D 1 34,.L,.w 12] 120259089437) (ab 39 [.m 0,.C,.a 0,.f 3,.x 5 12,.h 5,.K 5 13 11113] 120259093533) (e8 47 [.m 0,.C,.a 0,.f 2,.F 2 13,.bt 8,.f 7,.F 3 13,.bt 5,.h 5,.K 5 14 11133] [(14,[0,1,2,3,4,5,6,7,8,9,10,11,12,13]),(0,[])] 120259109917) (cK 61 [.F 1 13,.m 2,.a6 .eql,.Y,.F 2 14,.m 10,.a6 .geq,.Z,.Y,.dH 4 13,.O,.fX 4,.Y,.dH 3 14,.Z,.Z,.Z] 120259093533 (ab 82 [.m 0,.F 2 13,.F 3 13,.m 3,.dH 4 13,.l 113 [(2,1),(1,1),(0,1)],.c3 120] 120259085341))) 92 [.v 36,.d .add 1,.w 36]))
def HM:a3 122 HL:=a2
abbrev GG:aU:=a9 29 [4] (el (ab 0 [.i 4 0] 3) (ab 7 [.m 0,.N,.i 5 0,.w 6] 99) (cm 0 (eN [0,1,5,6] (am (qt 9 [.m 5,.m 6,.a6 .lss] 99 0) (cm 1 (am (ab 12 [.m 5,.m 6,.m 5,.B .sub,.d .quo 2,.B .add,.w 7] 227) (wt 18 [.m 1,.m 0,.x 1 7,.L,.jN (.fM (ai 19) [ai 23])] 227 (ab 24 [.m 7,.d .add 1,.w 5] 99) (ab 26 [.m 7,.w 6] 99))))))) (ab 27 [.m 5,.w 4] 16) aP)
def GH:a3 160 GG:=a2
abbrev GL:aU:=a9 16 [4] (b_ (ab 0 [.u 4] 7) (eh 4 [.F 2 1,.x 8 0,.f 7,.n 0,.q (.gq 5),.f 2,.v 2,.L,.a6 .leq,.b9 4] 16) aP)
def GM:a3 161 GL:=a2
abbrev GD:aU:=a9 12 [4] (dj (ab 0 [.X 2 5 0,.X 3 5 1,.u 4] 12) (ab 4 [.A 1 2,.G (.store 1 (ai 5) (f9 0)),.A 2 2,.G (.store 1 (ai 6) (f9 0)),.A 1 3,.G (.store 1 (ai 7) (f9 0)),.A 2 3,.G (.store 1 (ai 8) (f9 0))] 12) (ab 8 [.H 5 2,.H 5 3,.dA (.cp .eql (.cells [.int,.int,.int,.bool,.bool])),.b9 4] 16) aP)
def GF:a3 162 GD:=a2
abbrev RE:bu:=am (ab 62 [.F 1 13,.m 2,.a6 .neq,.O,.F 2 14,.m 10,.a6 .lss,.Z,.b9 62] 4611686138686497821) (bM 62 bd (am (ab 73 [.dH 4 13,.b9 73] 9444732965859549537309) (bM 73 (ab 75 [.m 0,.F 2 13,.F 3 13,.m 3,.V (.const (.bool U)),.l 113 [(2,1),(1,1),(0,1)],.c3 111] 120259085341) (am (ed 84 [.fX 4,.Y,.dH 3 14,.Z,.Y,.P 0 11,.F 2 13,.bt 3,.h 3,.F 3 13,.ba 112,.Z,.b9 84] [af,af,af,af,af,af,af,af,af,af,af,af,af,af,af,af,dY,af,af] 19342813113834187054392349) (bM 84 (ed 102 [.P 0 11,.F 2 13,.F 3 13,.m 3,.l 113 [(1,1),(0,1)],.v 108,.D 3 106,.s 3] [af,af,af,af,af,af,af,af,af,af,af,dY] 120259085341) bd)))))
abbrev Ht:aU:=a9 115 [] (b_ (ab 14 [.m 0,.C,.a 0,.f 2,.x 8 1,.f 7,.x 5 2,.f 1,.w 10] 1055) (ab 27 [.P 0 14,.x 1 1,.L,.N,.R (ca 36 0)] 120259085341) (c7 0 120259085341 36 [.v 36,.v 35,.B .lss] (dj (ab 37 [.v 36,.D 1 34,.L,.w 12] 120259089437) (ab 39 [.m 0,.C,.a 0,.f 3,.x 5 12,.h 5,.K 5 13 11113] 120259093533) (e8 47 [.m 0,.C,.a 0,.f 2,.F 2 13,.bt 8,.f 7,.F 3 13,.bt 5,.h 5,.K 5 14 11133] [(14,[0,1,2,3,4,5,6,7,8,9,10,11,12,13]),(0,[])] 120259109917) (cm 2 RE)) 113 [.v 36,.d .add 1,.w 36]))
def Hu:a3 163 Ht:=a2
end
def Xo{n:ak}{q:aG}(h:j7 n.bQ):j7 (c8 n q).bQ:=⟨h.p7,h.zI,h.aee,h.YK⟩
def M6(N:ak)(Q:aG)(v:V):Prop:=(∃o:cx,v=.tuple [.agg o.row,v0]/\(∃r:Nat,(r:Int)<=Q.aY/\fU N Q r Q.dst o.dW.aQ)/\∀(r:Nat)(t:Int),(r:Int)<=Q.aY->fU N Q r Q.dst t->o.dW.aQ<=t)∨
 (v=.tuple [.agg [g9,v0,v0,v0,v0,v0,g9],aa 23]/\∀(r:Nat)(t:Int),(r:Int)<=Q.aY->¬fU N Q r Q.dst t)
def M7(n:ak)(q:aG)(G:n.wf)(ok:di n)(al:ka n.aB.length q)(B:q.hE=ad)(y:q.aY<=5)(K:q.bD=86400)(k:j7 n.bQ):
 bq aH 10 [.agg n.row,.agg q.row] (M6 (c8 n q) (plain q)):=by
 have u:=tt n q ok;obtain⟨d,C,z⟩:=aa1 u;have E:Env (c8 n q) (plain q) d:=⟨u,C,z,al.aM,al.aY,al.bD,al.src⟩;have j:(g4 n.bQ).2=0:=by rw[ok.ok.bQ]
 have D:=aci n q G ok al B _ _ _ (Xy E k (tz j));have m:=Xo (q:=q) k;have f:(g4 (c8 n q).bQ).2=0:=j;have s:=tz f;refine bB HV (bN @ak.row.eq_1 @aG.row.eq_1 ?_);refine d2 D ?_;rintro v ⟨A,O,rfl,g⟩;have i:∀(r:Nat)(t:Int),(r:Int)<=(plain q).aY->fU (c8 n q) (plain q) r (plain q).dst t->∃o∈O,o.dW.aQ<=t:=λr t b a=>Qn E g y K m s f a b rfl;refine ah ?_;rcases St (O:=O) with⟨c,e⟩|⟨o,L,c,e,w⟩
 . rw[e];refine ah ?_;refine aW (λ_=>?_) (λh=>aJ rfl h);refine ah ?_;refine .inr ⟨rfl,λr t b a=>?_⟩
   . obtain⟨o,p,_⟩:=i r t b a;rw[c] at p;cases p
 . rw[c];refine ah ?_;refine aW (λh=>aJ h J) (λ_=>?_);refine aL @cx.row.eq_1 ?_;refine .inl ⟨o,rfl,?_,λr t b a=>?_⟩
   . obtain⟨l,F,H⟩:=g.xg o e;exact ad3 E m s f F H
   . obtain⟨x,M,N⟩:=i r t b a;exact Int.le_trans (w x M) N
def P5(a b:aZ):bq aH 162 [.agg a.row,.agg b.row] tr:=by refine bB GF (aL @aZ.row.eq_1 ?_);exact⟨_,rfl⟩
def Xl(a b:aV)(k:a.aO.length<=1000):bq aH 109 [.agg a.row,.agg b.row] tr:=by
 refine bB GJ (aL @aV.row.eq_1 ?_)
 repeat' (first|simp-implicitDefEqProofs (disch:=omega) only[go_sem]|apply aW<;>intro h|apply dt<;>intro h)
 all_goals first|exact⟨_,rfl⟩|skip
 rename_i l;refine c6 a.aO (λi c M=>c=[.ptr 1 0,.slice (a.aO.map aZ.row) a.tag,aa a.aO.length,aa i]/\M=[.box a.row,.box b.row]) ⟨rfl,rfl⟩ ?_ ?_;rotate_left
 . rintro c M ⟨rfl,rfl⟩;refine aL @bV ?_;exact⟨_,rfl⟩
 rintro i x c M g f e ⟨rfl,rfl⟩;obtain⟨y,j⟩:∃y,b.aO[i]? =I y:=⟨b.aO[i]'J,by simp⟩;have d:=P5 x y;simp only[aZ.row] at d;refine es e g j @aV.row.eq_1 @aZ.row.eq_1 ?_;refine d2 d ?_;rintro v ⟨t,rfl⟩;refine ah ?_
 repeat' (first|simp-implicitDefEqProofs (disch:=omega) only[go_sem,aV.row]|apply aW<;>intro h|apply dt<;>intro h)
 all_goals first|exact⟨_,rfl⟩|exact cN f rfl ⟨rfl,rfl⟩
def YL(n:ak)(a:n.wf)(ok:di n):bq aH 107 [.agg n.row] (λv=>v=.bool U):=by have h:=t7 n a ok;refine bB GP ?_;simp only[ak.row] at h;refine aL @ak.row.eq_1 ?_;exact bG h (kF)
def Co(N:Mem)(x:V)(l:List Int):Prop:=eY x N=I (aa l.length)/\∀(j:Nat)(o:Int),l[j]? =I o->∃e,d8 1 x (aa j) N=I e/\dZ 1 ad e N=I (aa o)
def Kx(n:Nat)(a:n<=1000000000):cT .quo .none (aa (n:Int)) (aa 2)=I (aa ((n/2:Nat):Int)):=by rw[wH _ _ _ _ J];have:Int.tdiv (n:Int) 2=((n/2:Nat):Int):=rfl;rw[this,kH _ J J]
def Ue{N:Mem}{x:V}{l:List Int}(H:Co N x l)(t:l.length<=1000){f:Nat}{caps:List V}(p:∀o∈l,bx aH f (aa o::caps) N (λv a8=>tr v/\a8=N)):
 bx aH 160 [x,.fn f caps] N (λv a8=>(∃k:Nat,v=aa k/\k<=l.length)/\a8=N):=by
 obtain⟨j,n⟩:=H;refine dX GH ?_;simp only[dN];refine aL j ?_;refine jz (λm g M=>∃a c:Nat,g=[x,.fn f caps,aa a,aa c]/\M=N/\a<=c/\c<=l.length/\m=c -a) l.length ⟨0,l.length,rfl,rfl,c_ _,bk _,J⟩ ?_;rintro m g M ⟨a,c,rfl,rfl,s,i,rfl⟩;refine ah ?_;apply cF<;>intro h
 . refine ah ?_;exact⟨a,rfl,J⟩
 have al:cT .quo .none (aa ((c:Int) -a)) (aa 2)=I (aa (((c -a)/2:Nat):Int)):=by have e:((c:Int) -a)=((c -a:Nat):Int):=J;rw[e];exact Kx _ J
 obtain⟨o,d⟩:∃o,l[a+(c -a)/2]? =I o:=⟨l[a+(c -a)/2]'J,by simp⟩;obtain⟨e,q,r⟩:=n _ o d;have em:((a:Int)+(((c -a)/2:Nat):Int))=((a+(c -a)/2:Nat):Int):=J;refine d0 al em q r ?_;refine ch (p o (bI d)) ?_;rintro v a8 ⟨⟨b,rfl⟩,rfl⟩;refine ah ?_;apply dt<;>intro _
 . refine ah ?_;exact .inl ⟨c -(a+(c -a)/2+1),J,a+(c -a)/2+1,c,rfl,rfl,J,i,rfl⟩
 . refine ah ?_;exact .inl ⟨(a+(c -a)/2) -a,J,a,a+(c -a)/2,rfl,rfl,J,J,rfl⟩
def aac{n:ak}(ok:di n){N:Mem}{k p:Nat}(a:N[k]? =I (.box n.row)){t:Int}(e:N[p]? =I (.box [aa t])){o:Int}(f:0<=o)(g:o<n.ar.length):
 bx aH 161 [aa o,.ptr k 0,.ptr p 0] N (λv a8=>tr v/\a8=N):=by
 obtain⟨r,b⟩:∃r,n.ar[o.toNat]? =I r:=⟨n.ar[o.toNat]'J,by simp⟩;have h:=(ok.ok.ar.2 _ r b).2.2.2.2.2.1.1;obtain⟨c,d⟩:∃c,r.aO[0]? =I c:=⟨r.aO[0]'J,by simp⟩;simp only[ak.row] at a;refine dX GM ?_;simp only[dN];refine he a e b @aV.row.eq_1 d @aZ.row.eq_1 ?_;exact⟨_,rfl⟩
theorem X3{R:List (List V)}{k:Nat}(h:k<=R.length)(z i:List V):(iI (R++[z]) (k+1) (((R++[z]).drop k).take (R.length -k))).set k i=R.take k++i::R.drop k:=by
 obtain⟨A,B,rfl,g⟩:∃A B,R=A++B/\A.length=k:=⟨R.take k,R.drop k,(List.take_append_drop k R).symm,by rw[fh];omega⟩;subst g;have a:(A++B).take A.length=A:=by simp
 have b:(A++B).drop A.length=B:=by simp
 have c:((A++B)++[z]).drop A.length=B++[z]:=by rw[cS];simp
 have d:(A++B).length -A.length=B.length:=by rw[b0];omega
 rw[a,b,c,d];have e:(B++[z]).take B.length=B:=by simp
 rw[e];cases B with
 |nil=>rw[ez];show(A++[z]).set A.length i=A++[i];rw[l1,ax J,hA];rfl
 |cons y B=>
  have f:A++y::B++[z]=(A++[y])++(B++[z]):=by simp
  rw[f,show A.length+1=(A++[y]).length by simp,A5 _ _ _ (by simp)];rw[cS,l1,ax J,hA];rfl
def d9(x:Int):List V:=[aa x]
def mS(N:Mem)(x:V)(l:List Int):Prop:=(x=.slice [] .nil/\l=[])∨∃a ver,x=.an a ver 0 l.length/\N[a]? =I (.aj 1 (l.map d9) ver 0)/\0<l.length
def mS.a1{N:Mem}{x:V}{l:List Int}(h:mS N x l)(L:Mem):mS (N++L) x l:=by
 rcases h with h|⟨a,ver,b,c,d⟩
 . exact .inl h
 . exact .inr ⟨a,ver,b,a0 c L,d⟩
theorem mS.eV{N:Mem}{x:V}{l:List Int}(h:mS N x l):Co N x l:=by
 rcases h with⟨rfl,rfl⟩|⟨a,ver,rfl,b,e⟩
 . exact⟨rfl,λj o h=>by simp at h⟩
 . refine⟨jZ b,λj o c=>?_⟩;have d:=(az.1 c).1;refine⟨_,e2 b d (by simp),?_⟩;simp only[dZ,b,beq_self_eq_true,bi,dK,c,jE];rfl
theorem J1:∀(R:List (List V))(k:Nat)(S:List (List V)),(∀r∈R,r.length=1)->(∀r∈S,r.length=1)->∀r∈iI R k S,r.length=1
 |R,_,[],h,_,r,a=>h r a
 |R,k,y::S,h,ae,r,a=>J1 (R.set k y) (k+1) S (λr a=>(List.mem_or_eq_of_mem_set a).elim (h r) λe=>e▸ae y (ft ..)) (λr a=>ae r (fs _ a)) r a
def mS.X2{N:Mem}{x:V}{l:List Int}(h:mS N x l)(X:l.length<=1000){k:Nat}(P:k<=l.length)(i:Int):∃a ver b q v c,cw ad 1 8 x (.slice [d9 0] .full) N=I (.an a ver 0 (l.length+1),b)/\
 eQ 1 (.an a ver 0 (l.length+1)) (I (aa ((k:Int)+1))) ag ag b=I (.an a ver (k+1) (l.length -k))/\eQ 1 (.an a ver 0 (l.length+1)) (I (aa (k:Int))) ag ag b=I (.an a ver k (l.length+1 -k))/\
 kr 1 (.an a ver (k+1) (l.length -k)) (.an a ver k (l.length+1 -k)) b=I (c,q)/\d8 1 (.an a ver 0 (l.length+1)) (aa (k:Int)) q=I (.df a ver k 0)/\
 qf 1 (.df a ver k 0) (aa i) q=I (.undef,v)/\mS v (.an a ver 0 (l.length+1)) (l.take k++i::l.drop k)/\∀(j:Nat) f,N[j]? =I (.box f)->b[j]? =I (.box f)/\q[j]? =I (.box f)/\v[j]? =I (.box f):=by
 obtain⟨a,ver,b,L,g,w⟩:∃a ver b,cw ad 1 8 x (.slice [d9 0] .full) N=I (.an a ver 0 (l.length+1),b)/\b[a]? =I (.aj 1 (l.map d9++[d9 0]) ver 0)/\∀(j:Nat) f,N[j]? =I (.box f)->b[j]? =I (.box f):=by
  rcases h with⟨rfl,rfl⟩|⟨a,ver,rfl,g,w⟩
  . refine⟨N.length,0,N++[.aj 1 [d9 0] 0 0],?_,by simp,λj f o=>a0 o _⟩;simp[cw,dg,eU,dP,d9]
  . refine⟨a,ver+1,_,md (r:=d9 0) g (by simp) rfl J,?_,λj f o=>?_⟩
    . exact bY (az.1 g).1
    . rw[bo λe=>by subst e;rw[g] at o;cases o];exact o
 have D:=(az.1 g).1;have O:(l.map d9++[d9 0]).length=l.length+1:=by simp
 have s:=X3 (R:=l.map d9) (k:=k) (by simpa using P) (d9 0) (d9 i);have G:∀(m:Nat),m<=l.length+1->eQ 1 (.an a ver 0 (l.length+1)) (I (aa (m:Int))) ag ag b=I (.an a ver m (l.length+1 -m)):=λm B=>by have H:decide (0<=(m:Int))=U:=bR;simp only[eQ,g,H,gE,beq_self_eq_true,O,dm,bk,decide_true,be B,cR,bi,dU]
 have T:dg 1 b (.an a ver k (l.length+1 -k))=I (((l.map d9++[d9 0]).drop k).take (l.length+1 -k)):=by have d:decide (k+(l.length+1 -k)<=(l.map d9++[d9 0]).length)=U:=bR;simp only[dg,g,beq_self_eq_true,Bool.true_and,d,bi]
 have E:kr 1 (.an a ver (k+1) (l.length -k)) (.an a ver k (l.length+1 -k)) b=I (aa (min (l.length -k) ((((l.map d9++[d9 0]).drop k).take (l.length+1 -k)).length):Nat),b.set a (.aj 1 (iI (l.map d9++[d9 0]) (k+1) (((l.map d9++[d9 0]).drop k).take (l.length -k))) ver 0)):=by
  have d:decide (k+1+(l.length -k)<=(l.map d9++[d9 0]).length)=U:=bR;have t:(((l.map d9++[d9 0]).drop k).take (l.length+1 -k)).take (l.length -k)=((l.map d9++[d9 0]).drop k).take (l.length -k):=by rw[List.take_take,Nat.min_eq_left J]
  simp only[kr,T,g,beq_self_eq_true,d,be (c_ (k+1)),cR,bi,t]
 rw[cz] at s;have Q:(iI (l.map d9++[d9 0]) (k+1) (((l.map d9++[d9 0]).drop k).take (l.length -k))).length=l.length+1:=by have:=congrArg List.length s;simp only[cW,b0,cc,fh,kJ,cz] at this;omega
 generalize M:iI (l.map d9++[d9 0]) (k+1) (((l.map d9++[d9 0]).drop k).take (l.length -k))=n at E s Q;have C:(b.set a (.aj 1 n ver 0))[a]? =I (.aj 1 n ver 0):=bY D;obtain⟨u,F⟩:∃r,n[k]? =I r:=⟨n[k]'J,by simp⟩;have S:u.length=1:=by
  have B:u∈n:=bI F;have:∀r∈l.map d9++[d9 0],r.length=1:=λr p=>by
   rcases dv.1 p with p|p
   . obtain⟨y,_,rfl⟩:=gY.1 p;rfl
   . rw[dV.1 p];rfl
  exact J1 _ _ _ this (λr p=>this r (List.mem_of_mem_drop (List.mem_of_mem_take p))) u (M▸B)
 have W:qf 1 (.df a ver k 0) (aa i) (b.set a (.aj 1 n ver 0))=I (.undef,(b.set a (.aj 1 n ver 0)).set a (.aj 1 (n.set k (d9 i)) ver 0)):=by obtain⟨y,rfl⟩:∃y,u=[y]:=List.length_eq_one_iff.1 S;have K:decide (0<=k)=U:=be (c_ k);simp only[qf,uo,C,F,beq_self_eq_true,K,Bool.true_and,cR];rfl
 refine⟨a,ver,b,_,_,_,L,?_,G k J,E,e2 C J J,W,.inr ⟨a,ver,?_,?_,?_⟩,λj f o=>?_⟩
 . have:=G (k+1) J;rw[show((k+1:Nat):Int)=(k:Int)+1 by omega,show l.length+1 -(k+1)=l.length -k by omega] at this;exact this
 . simp only[b0,cc,fh,kJ]
   congr 1;omega
 . rw[bY (by rw[cW];exact D),s,iL,gg,List.map_take,List.map_drop]
 . simp only[b0,cc];omega
 . have A:j≠a:=λe=>by have:=w j f o;rw[e,g] at this;cases this
   have z:=w j f o;exact⟨z,by rw[bo (cA A)];exact z,by rw[bo (cA A),bo (cA A)];exact z⟩
def mS.pO{N:Mem}{x:V}{l:List Int}(h:mS N x l):∃c,cY N 0 20 x=I (.slice (l.map d9) c):=by
 rcases h with⟨rfl,rfl⟩|⟨a,ver,rfl,b,e⟩
 . exact⟨.nil,rfl⟩
 . refine⟨.bF,?_⟩;have d:decide (0+l.length<=(l.map d9).length)=U:=be (by simp);simp only[cY,b,decide_eq_false (c9 a),eE,beq_self_eq_true,d,cR,bi,hN,eS (Nat.le_of_eq (cz d9):(l.map d9).length<=l.length)]
def aad(n:ak)(ok:di n):bq aH 108 [.agg n.row] (λv=>∃(l:List Int)(c:cg),v=.slice (l.map d9) c/\l.length<=7/\∀o∈l,0<=o/\o<n.ar.length):=by
 have Y:=ok.ar;refine bB GN (aL @ak.row.eq_1 ?_);refine c6 n.ar (λi p N=>∃x l,p=[.ptr 0 0,x,.slice (n.ar.map aV.row) n.jx,aa n.ar.length,aa i]/\N[0]? =I (.box n.row)/\mS N x l/\l.length<=i/\∀o∈l,0<=o/\o<(n.ar.length:Int)) ⟨.slice [] .nil,[],rfl,rfl,.inl ⟨rfl,rfl⟩,bk _,λ_ h=>(gh h).elim⟩ ?_ ?_;rotate_left
 . rintro p N ⟨x,l,rfl,m,j,Q,e⟩;obtain⟨c,R⟩:=j.pO;refine aL @bV ?_;rw[aX,uh];show hC (cY N 0 20 x) _;rw[R];exact⟨rfl,⟨l,c,rfl,J,e⟩,rfl,rfl⟩
 rintro i r p N z y O ⟨x,l,rfl,m,j,Q,e⟩;have Z:=(ok.ok.ar.2 i r z).2.2.2.2.2.1.1;obtain⟨c,M⟩:∃c,r.aO[0]? =I c:=⟨r.aO[0]'J,by simp⟩;have q:∀L:Mem,(N++L)[N.length+1]? =L[1]? :=λL=>by rw[fH J,show N.length+1 -N.length=1 by omega]
 have s:=λL=>cE N L;have A:∀(B X:au)(L:Mem),(N++B::L).set N.length X=N++X::L:=λB X L=>hZ N B X L;refine es O z @aV.row.eq_1 s A ?_;apply dt<;>intro g
 . refine ah ?_;exact bE y ⟨x,l,rfl,a0 m _,j.a1 _,J,e⟩
 refine b6 s M @aZ.row.eq_1 ?_;have C:∀(a:au)(b X:au),(N++[a,b]).set (N.length+1) X=N++[a,X]:=λa b X=>by simp
 have w:=Ue (N:=N++[.box r.row,.box [aa c.aR]]) (x:=x) (l:=l) (j.a1 _).eV J (f:=161) (caps:=[.ptr 0 0,.ptr (N.length+1) 0]) λo d=>aac ok (a0 m _) (by rw[q];rfl) (e o d).1 (e o d).2;simp only[aV.row] at w;refine es @cS.{0} @fG.{0} @eH.{0} q C ?_;refine ch w ?_;rintro v a8 ⟨⟨k,rfl,P⟩,rfl⟩;obtain⟨a,ver,S,T,V,W,t,D,E,F,G,u,H,K⟩:=mS.X2 (j.a1 [.box r.row,.box [aa c.aR]]) J P (i:Int);simp only[aV.row,d9] at t;simp only[go_sem] at u;refine he t D E F G u ?_;refine bE y ⟨_,l.take k++(i:Int)::l.drop k,rfl,(K 0 _ (a0 m _)).2.2,?_,?_,λo d=>?_⟩
 . exact H
 . simp only[b0,cc,fh,kJ];omega
 . rcases dv.1 d with d|d
   . exact e o (List.mem_of_mem_take d)
   . rcases fI.1 d with rfl|d
     . omega
     . exact e o (List.mem_of_mem_drop d)
def cD(x t:Int):Prop:=x≠-1/\x<=t
def gi(x y:Int):Prop:=y≠-1->x≠-1/\x<=y
def gi.refl(x:Int):gi x x:=λh=>⟨h,fS _⟩
def gi.trans{x y z:Int}(a:gi x y)(b:gi y z):gi x z:=λh=>⟨(a (b h).1).1,Int.le_trans (a (b h).1).2 (b h).2⟩
def gi.fy{x y t:Int}(a:gi x y)(b:cD y t):cD x t:=⟨(a b.1).1,Int.le_trans (a b.1).2 b.2⟩
def cD.le{x t u:Int}(a:cD x t)(h:t<=u):cD x u:=⟨a.1,Int.le_trans a.2 h⟩
structure co where
 aj:Int
 rd:Int
 cn:Int
 fa:Int
 dl:Int
def fN(p:co)(a r l:Int):co:=⟨if p.aj=-1∨a<p.aj then a else p.aj,p.rd,if p.cn=-1∨r<p.cn then r else p.cn,if p.aj=-1∨a<p.aj then l else p.fa,if p.cn=-1∨r<p.cn then l else p.dl⟩
def cb{α:Type}(P:Nat->α)(d:Nat)(x:α):Nat->α:=λi=>if i=d then x else P i
theorem fq{α:Type}(P:Nat->α)(d:Nat)(x:α):cb P d x d=x:=aF rfl
def hy{α:Type}(P:Nat->α){d i:Nat}(x:α)(h:i≠d):cb P d x i=P i:=ax h
def iu(P a:Nat->co):Prop:=∀s,gi (a s).aj (P s).aj/\gi (a s).cn (P s).cn
def iu.refl(P:Nat->co):iu P P:=λ_=>⟨.refl _,.refl _⟩
def iu.trans{P c d:Nat->co}(a:iu P c)(b:iu c d):iu P d:=λs=>⟨(b s).1.trans (a s).1,(b s).2.trans (a s).2⟩
def kP(A D:Nat->Int->Int->Prop)(P:Nat->co):Prop:=∀s,((P s).aj≠-1->A s (P s).aj (P s).fa)/\((P s).cn≠-1->D s (P s).cn (P s).dl)
def vu(P:Nat->co)(d:Nat){a r l:Int}(f:0<=a)(i:0<=r):iu P (cb P d (fN (P d) a r l))/\(∀s,(cb P d (fN (P d) a r l) s).rd=(P s).rd)/\cD (cb P d (fN (P d) a r l) d).aj a/\cD (cb P d (fN (P d) a r l) d).cn r/\
 ∀A D:Nat->Int->Int->Prop,kP A D P->A d a l->D d r l->kP A D (cb P d (fN (P d) a r l)):=by
 refine⟨λs=>?_,λs=>?_,?_,?_,λA D h b e s=>?_⟩
 . by_cases h:s=d
   . subst h;rw[fq];simp only[fN,gi];refine⟨λh=>?_,λh=>?_⟩;all_goals (split<;>omega)
   . rw[hy _ _ h];exact⟨.refl _,.refl _⟩
 . by_cases h:s=d
   . subst h;rw[fq];rfl
   . rw[hy _ _ h]
 . rw[fq];simp only[fN,cD];split<;>omega
 . rw[fq];simp only[fN,cD];split<;>omega
 . by_cases ae:s=d
   . subst ae;rw[fq];simp only[fN];refine⟨λg=>?_,λg=>?_⟩
     . by_cases c:(P s).aj=-1∨a<(P s).aj
       . rw[aF c,aF c];exact b
       . rw[ax c,ax c];exact(h s).1 J
     . by_cases c:(P s).cn=-1∨r<(P s).cn
       . rw[aF c,aF c];exact e
       . rw[ax c,ax c];exact(h s).2 J
   . rw[hy _ _ ae];exact h s
section
variable(n:ak)(q:aG)
def ma(P:Nat->co)(s t:Int):Prop:=∀p∈n.bw,p.src=s->t+p.bs<=3155932800->cD (P p.dst.toNat).aj (t+p.bs)/\cD (P p.dst.toNat).cn (t+p.bs)
structure rQ(P:Nat->co):Prop where
 aj:cD (P q.src.toNat).aj q.aM
 cn:cD (P q.src.toNat).cn (q.aM+(if q.hc then dS n q.src else 0))
 bD:ma n P q.src q.aM
def tn(P:Nat->co)(s:Nat):Prop:=(P s).rd≠-1->cD (P s).aj (P s).rd/\cD (P s).cn ((P s).rd+dS n s)/\ma n P s (P s).rd
def Cs(L R:Nat->Int)(i m:Nat)(e:aZ):Prop:=∀x∈n.bj,x.src=i->x.fg=m->∀(S:aV)(c:aZ),n.ar[x.dst.toNat]? =I S->S.aO[x.ea.toNat]? =I c->e.aQ<=c.aR->
 (x.aT=U->S.ds=ad->cD (R x.dst.toNat) x.ea)/\(x.aT=ad->e.ct=U->c.cM=U->cD (L x.dst.toNat) x.ea)
def ql(P:Nat->co)(L R:Nat->Int)(i m:Nat):Prop:=∀r e,de n i m r e->(e.ct=U->cD (P e.stop.toNat).rd e.aQ)/\Cs n L R i m e
def ts(P:Nat->co)(L R:Nat->Int)(i:Nat)(b:Int):Prop:=∀m:Nat,b<m->ql n P L R i m
structure pm(k:Nat)(P:Nat->co)(L:Nat->Int):Prop where
 eP:rQ n q P
 bl:∀s,tn n P s
 uS:∀r j a,eg n q r j a->r<=k->∀(m:Nat)(S:aV)(e:aZ),a<m->de n j m S e->(e.ct=U->cD (P e.stop.toNat).rd e.aQ)/\
  ∀x∈n.bj,x.src=j->x.fg=m->x.aT=ad->∀(T:aV)(c:aZ),n.ar[x.dst.toNat]? =I T->T.aO[x.ea.toNat]? =I c->e.aQ<=c.aR->e.ct=U->c.cM=U->cD (L x.dst.toNat) x.ea
end
section
variable{n:ak}{q:aG}
def iu.v8{P a:Nat->co}(h:iu P a){s t:Int}(e:ma n P s t):ma n a s t:=λp d b c=>⟨(h _).1.fy (e p d b c).1,(h _).2.fy (e p d b c).2⟩
def iu.eP{P b:Nat->co}(h:iu P b)(a:rQ n q P):rQ n q b:=⟨(h _).1.fy a.aj,(h _).2.fy a.cn,h.v8 a.bD⟩
def iu.bl{P d:Nat->co}(h:iu P d){s:Nat}(e:(d s).rd=(P s).rd)(f:tn n P s):tn n d s:=λg=>by rw[e] at g⊢;obtain⟨a,b,c⟩:=f g;exact⟨(h _).1.fy a,(h _).2.fy b,h.v8 c⟩
theorem Mj{r i b:Nat}(h:eg n q r i b):∃R B,de n i b R B:=by
 cases h with
 |eP h=>exact⟨_,_,h⟩
 |kA _ _ _ h=>exact⟨_,_,h⟩
 |bl _ _ _ _ h=>exact⟨_,_,h⟩
 |qV _ _ _ _ h=>exact⟨_,_,h⟩
 |bD _ _ _ _ _ _ _ h=>exact⟨_,_,h⟩
 |aT _ _ _ h=>exact⟨_,_,h⟩
theorem abW{k:Nat}{Q P:Nat->co}{G L R:Nat->Int}(ae:∀x∈n.bj,(0<=x.dst/\0<=x.ea)/\(x.aT=U->x.ea=0))(T:∀r∈n.ar,∀c∈r.aO,0<=c.stop)(aj:0<=q.src)
 (ah:∀p∈n.bw,0<=p.dst/\0<=p.src)(t:pm n q k Q G)(X:∀i r,n.ar[i]? =I r->r.ds=ad->G i≠-1->cD (R i) (G i))
 (D:∀i b r c,de n i b r c->c.cM=U->cD (Q c.stop.toNat).cn c.aR->cD (R i) b)(Y:∀i,R i≠-1->ts n P L R i (R i)){r i b:Nat}(s:eg n q r i b):r<=k+1->cD (R i) b:=by
 induction s with
 |eP f d g H=>intro _;exact D _ _ _ _ f d (by rw[g];exact t.eP.cn.le H)
 |kA O f d g H V W=>intro _;exact D _ _ _ _ g H (by rw[V];exact(t.eP.bD _ O f d).2.le W)
 |bl s u l z h y o A _=>intro E;obtain⟨f,_⟩:=t.uS _ _ _ s J _ _ _ u l;have d:=f z;have g:=(t.bl _ d.1).2.1;refine D _ _ _ _ h y ?_;rw[o];have K:=T _ (bI l.cy) _ (bI l.cV);rw[fr K] at g;exact g.le (by have:=d.2;omega)
 |@qV r j a m i b S v e B x s u l z h y F o M N aa Z A _=>intro E;obtain⟨_,f⟩:=t.uS _ _ _ s J _ _ _ u l;have w:x.dst.toNat=i:=J;have C:x.ea.toNat=b:=J;have d:=f x F M N o v B (by rw[w];exact h.cy) (by rw[C];exact h.cV) A z y;rw[w,Z] at d;exact(X i v h.cy h.ds d.1).le d.2
 |@bD r j a m i b S v e B p s u l z O ab ai h y o A _=>intro E;obtain⟨f,_⟩:=t.uS _ _ _ s J _ _ _ u l;have d:=f z;have g:=(t.bl _ d.1).2.2;have K:=T _ (bI l.cy) _ (bI l.cV);rw[fr K] at g;refine D _ _ _ _ h y ?_;rw[o];have:=d.2;exact(g p O ab J).2.le J
 |@aT r j a m i S v e B x s u l h F o M N aa A af=>intro E;have f:=af E;have w:x.dst.toNat=i:=J;have C:=(ae x F).2 o;obtain⟨d,_⟩:=(Y j f.1 m (by have:=f.2;omega) S e l).2 x F M N v B (by rw[w];exact h.cy) (by rw[C];exact h.cV) A;have g:=d o h.ds;rw[w,C] at g;exact g
def abV{k:Nat}{g P d:Nat->co}{f L R:Nat->Int}(ae:∀x∈n.bj,(0<=x.dst/\0<=x.ea)/\(x.aT=U->x.ea=0))(u:∀r∈n.ar,∀c∈r.aO,0<=c.stop)(O:0<=q.src)
 (K:∀p∈n.bw,0<=p.dst/\0<=p.src)(o:pm n q k g f)(z:∀i r,n.ar[i]? =I r->r.ds=ad->f i≠-1->cD (R i) (f i))
 (y:∀i b r c,de n i b r c->c.cM=U->cD (g c.stop.toNat).cn c.aR->cD (R i) b)(t:∀i,R i≠-1->ts n P L R i (R i))
 (G:iu g d)(N:∀s,(d s).rd=(P s).rd)(B:∀s,tn n d s):pm n q (k+1) d L:=by
 refine⟨G.eP o.eP,B,λr j a W M m S e Y A=>?_⟩;have l:=abW ae u O K o z y t W M;obtain⟨v,w⟩:=t j l.1 m (by have:=l.2;omega) S e A;exact⟨λh=>by rw[N];exact v h,λx X H J Q T c C E V F D=>(w x X H J T c C E V).2 Q F D⟩
theorem IE{k:Nat}{P:Nat->co}{L:Nat->Int}(l:∀r∈n.ar,∀c∈r.aO,0<=c.stop)(b:pm n q k P L){r:Nat}{s t:Int}(d:fU n q r s t)(j:r<=k):cD (P s.toNat).aj t:=by
 cases d with
 |eP=>exact b.eP.aj
 |kA g m a=>exact(b.eP.bD _ g m a).1
 |bl h d e f=>have a:=(b.uS _ _ _ h j _ _ _ d e).1 f;exact(b.bl _ a.1).1.le a.2
 |bD h d e f g p u=>have a:=(b.uS _ _ _ h j _ _ _ d e).1 f;have i:=(b.bl _ a.1).2.2;have o:=l _ (bI e.cy) _ (bI e.cV);rw[fr o] at i;have:=a.2;exact(i _ g p J).1.le J
def l3(n:ak)(q:aG)(k:Nat)(s:Nat)(t a:Int):Prop:=∃r,r<=k/\fU n q r s t
def mW(n:ak)(q:aG)(k:Nat)(s:Nat)(t a:Int):Prop:=0<=t/\∀i b R B,de n i b R B->B.cM=U->B.stop=s->t<=B.aR->∃r,r<=k+1/\eg n q r i b
def ox(n:ak)(q:aG)(k:Nat)(s:Nat)(t:Int):Prop:=∃r j a m S e,r<=k/\eg n q r j a/\a<m/\de n j m S e/\e.ct=U/\e.stop=s/\e.aQ=t
def yv(n:ak)(q:aG)(k:Nat)(i:Nat)(b:Int):Prop:=0<=b/\(∃R B,n.ar[i]? =I R/\R.aO[b.toNat]? =I B)/\∀R,n.ar[i]? =I R->R.ds=ad->∃r,r<=k/\eg n q r i b.toNat
def aa2{k s:Nat}{t l:Int}(h:ox n q k s t):l3 n q k s t l:=by obtain⟨r,j,a,m,S,e,b,c,d,f,g,i,rfl⟩:=h;rw[l3,<-i];exact⟨r,b,.bl c d f g⟩
def aa3{k s:Nat}{t l:Int}(h:ox n q k s t)(c:0<=t+dS n s):mW n q k s (t+dS n s) l:=by obtain⟨r,j,a,m,S,e,y,f,g,o,p,d,rfl⟩:=h;rw[<-d] at c⊢;exact⟨c,λi b R B u v w x=>⟨r+1,J,.bl f g o p u v (w.trans d.symm) x⟩⟩
def aa5{k s:Nat}{t l:Int}(h:ox n q k s t){p:bb}(u:p∈n.bw)(ae:p.src=s)(v:t+p.bs<=3155932800)(A:0<=p.dst)(w:0<=t+p.bs):l3 n q k p.dst.toNat (t+p.bs) l/\mW n q k p.dst.toNat (t+p.bs) l:=by obtain⟨r,j,a,m,S,e,x,c,d,f,g,o,rfl⟩:=h;rw[l3,mW,fr A];exact⟨⟨r,x,.bD c d f g u (ae.trans o.symm) v⟩,w,λi b R B y z D C=>⟨r+1,J,.bD c d f g u (ae.trans o.symm) v y z D C⟩⟩
def acO{k:Nat}{P:Nat->co}(h:kP (l3 n q k) (mW n q k) P):kP (l3 n q (k+1)) (mW n q (k+1)) P:=λs=>by
 obtain⟨d,e⟩:=h s;refine⟨λg=>?_,λg=>?_⟩
 . obtain⟨r,a,b⟩:=d g;exact⟨r,J,b⟩
 . obtain⟨c,f⟩:=e g;exact⟨c,λi b R B j l m o=>by obtain⟨r,a,b⟩:=f i b R B j l m o;exact⟨r,J,b⟩⟩
def aa4{k s:Nat}{t:Int}(h:ox n q k s t):ox n q (k+1) s t:=by obtain⟨r,j,a,m,S,e,c,b⟩:=h;exact⟨r,j,a,m,S,e,J,b⟩
end
def ja(C:List Int)(x:Int):Nat:=if x=-1 then C.length+1 else(C.filter λy=>decide (y<x)).length
def yq(C:List Int)(x:Int):ja C x<=C.length+1:=by have:=lZ (λy=>decide (y<x)) C;unfold ja;split<;>omega
theorem z2{p q:Int->Bool}:∀{C:List Int},(∀y∈C,p y=U->q y=U)->(C.filter p).length<=(C.filter q).length
 |[],_=>bk _
 |y::C,h=>by
  have:=z2 (C:=C) λz c=>h z (fs _ c);have a:=h y (ft ..);simp only[List.filter_cons];cases b:p y
  . cases al:q y
    . simpa using this
    . simp only[gX,if_false,if_true,cc];omega
  . rw[a b];simp only[if_true,cc];omega
theorem ES{p q:Int->Bool}{x:Int}:∀{C:List Int},(∀y∈C,p y=U->q y=U)->x∈C->p x=ad->q x=U->(C.filter p).length<(C.filter q).length
 |y::C,h,a,c,d=>by
  have ae:=z2 (C:=C) λz b=>h z (fs _ b);rcases fI.1 a with rfl|a
  . simp only[List.filter_cons,c,d,gX,if_false,if_true,cc];omega
  . have:=ES (C:=C) (λz b=>h z (fs _ b)) a c d;have e:=h y (ft ..);simp only[List.filter_cons];cases f:p y
    . cases al:q y
      . simpa using this
      . simp only[gX,if_false,if_true,cc];omega
    . rw[e f];simp only[if_true,cc];omega
def ux{C:List Int}{x y:Int}(h:gi x y):ja C x<=ja C y:=by
 by_cases a:y=-1
 . subst a;simpa[ja] using yq C x
 . obtain⟨b,d⟩:=h a;simp only[ja,ax b,ax a];exact z2 λz _ c=>be (by have:=of_decide_eq_true c;omega)
def yr{C:List Int}{x y:Int}(c:x∈C)(a:x≠-1)(h:y=-1∨x<y):ja C x<ja C y:=by
 by_cases b:y=-1
 . subst b;have:=lZ (λy=>decide (y<x)) C;simp only[ja,ax a,if_true];omega
 . simp only[ja,ax a,ax b];exact ES (x:=x) (λz _ d=>be (by have:=of_decide_eq_true d;omega)) c (by simp) bR
def oa:Nat->(Nat->Nat)->Nat
 |0,_=>0
 |n+1,f=>oa n f+f n
theorem BL{f g:Nat->Nat}:∀{n:Nat},(∀i,i<n->f i<=g i)->oa n f<=oa n g
 |0,_=>bk _
 |n+1,h=>by have:=BL (n:=n) λi a=>h i J;have:=h n J;simp only[oa];omega
theorem BM{f g:Nat->Nat}{d:Nat}(b:f d<g d):∀{n:Nat},(∀i,i<n->f i<=g i)->d<n->oa n f<oa n g
 |n+1,h,j=>by
  have e:=h n J;simp only[oa];rcases eT d n with a|a
  . have:=BM b (n:=n) (λi c=>h i J) a;omega
  . obtain rfl:d=n:=J;have:=BL (n:=d) λi c=>h i J;omega
theorem BK{f:Nat->Nat}{b:Nat}:∀{n:Nat},(∀i,f i<=b)->oa n f<=n*b
 |0,_=>c_ _
 |n+1,h=>by have:=BK (n:=n) h;have:=h n;simp only[oa,Nat.succ_mul];omega
def tB:List Int:=[0,1,2,3,4,5]
def Jz{k:Nat}(h:k<6):(k:Int)∈tB:=by have:k=0∨k=1∨k=2∨k=3∨k=4∨k=5:=J;rcases this with rfl|rfl|rfl|rfl|rfl|rfl<;>simp[tB]
def jS(a:Nat)(R:Nat->Int):Nat:=oa a λi=>ja tB (R i)
def KX{a:Nat}(h:a<=7)(R:Nat->Int):jS a R<=49:=by have b:jS a R<=a*7:=BK λi=>yq tB (R i);omega
def KY{a:Nat}{R:Nat->Int}{i:Nat}{k:Nat}(e:i<a)(c:k<6)(h:R i=-1∨(k:Int)<R i):jS a (cb R i (k:Int))<jS a R:=by
 refine BM (d:=i) ?_ (λj _=>?_) e
 . show ja tB (cb R i (k:Int) i)<_;rw[fq];exact yr (Jz c) J h
 . show ja tB (cb R i (k:Int) j)<=_;by_cases b:j=i
   . subst b;rw[fq];exact Nat.le_of_lt (yr (Jz c) J h)
   . rw[hy _ _ b];exact bk _
def Ax{R:Nat->Int}{i:Nat}{k:Int}(b:0<=k)(h:R i=-1∨k<R i)(j:Nat):gi (cb R i k j) (R j):=by
 by_cases a:j=i
 . subst a;rw[fq];intro g;exact⟨J,J⟩
 . rw[hy _ _ a];exact .refl _
def q9(C:List Int)(a:Nat)(P:Nat->co):Nat:=oa a λs=>ja C (P s).aj+ja C (P s).cn
def Kd{C:List Int}{b:Nat}{P a:Nat->co}(h:iu P a):q9 C b a<=q9 C b P:=BL λs _=>Nat.add_le_add (ux (h s).1) (ux (h s).2)
def Ke{C:List Int}{b d:Nat}{P:Nat->co}{a r l:Int}(k:d<b)(i:0<=a)(m:0<=r)(f:a∈C)(g:r∈C)(h:((P d).aj=-1∨a<(P d).aj)∨((P d).cn=-1∨r<(P d).cn)):
 q9 C b (cb P d (fN (P d) a r l))<q9 C b P:=by
 have ae:=vu P d (l:=l) i m;refine BM (d:=d) ?_ (λj _=>Nat.add_le_add (ux (ae.1 j).1) (ux (ae.1 j).2)) k;have c:=ux (C:=C) (ae.1 d).1;have e:=ux (C:=C) (ae.1 d).2;show ja C (cb P d (fN (P d) a r l) d).aj+ja C (cb P d (fN (P d) a r l) d).cn<_;rw[fq] at c e⊢;rcases h with h|h
 . have:ja C (fN (P d) a r l).aj<ja C (P d).aj:=by simp only[fN,aF h];exact yr f J h
   omega
 . have:ja C (fN (P d) a r l).cn<ja C (P d).cn:=by simp only[fN,aF h];exact yr g J h
   omega
def aay{C:List Int}{a:Nat}{P:Nat->co}(h:a<=5):q9 C a P<=10*(C.length+1):=by
 have b:q9 C a P<=a*(2*(C.length+1)):=BK λs=>by have:=yq C (P s).aj;have:=yq C (P s).cn;omega
 have c:a*(2*(C.length+1))<=5*(2*(C.length+1)):=hj _ h;omega
structure fK where
 cl:Int
 prev:Int
 aT:Bool
inductive hn(B:List (a7×Int)):Int->Nat->Prop
 |nil:hn B (-1) 0
 |cons {l:Nat} {x:a7} {p:Int} {r:Nat}:B[l]? =I (x,p)->p<l->hn B p r->hn B l (r+if x.bl&&!x.aT then 1 else 0)
theorem hn.a1{B:List (a7×Int)}{l:Int}{r:Nat}(h:hn B l r)(X:List (a7×Int)):hn (B++X) l r:=by
 induction h with
 |nil=>exact .nil
 |cons a b _ c=>exact .cons (by rw[et (az.1 a).1];exact a) b c
theorem hn.lt{B:List (a7×Int)}{l:Int}{r:Nat}(h:hn B l r):-1<=l/\l<B.length:=by
 cases h with
 |nil=>omega
 |cons a _ _=>have:=(az.1 a).1;omega
def hn.new{B:List (a7×Int)}{x:a7}{p:Int}{r:Nat}(h:hn B p r):hn (B++[(x,p)]) B.length (r+if x.bl&&!x.aT then 1 else 0):=
 .cons (by simp) h.lt.2 (h.a1 _)
section
variable(n:ak)(q:aG)
def rS(C:List Int)(B:List (a7×Int))(s:Nat)(t l:Int):Prop:=t∈C/\0<=t/\t<=3155932800/\∃r,hn B l r/\fU n q r s t
def rT(C:List Int)(B:List (a7×Int))(s:Nat)(t l:Int):Prop:=t∈C/\0<=t/\t<=3155936400/\∃r,hn B l r/\∀i b R c,de n i b R c->c.cM=U->c.stop=s->t<=c.aR->eg n q (r+1) i b
def tq(B:List (a7×Int))(i:Nat)(b:fK):Prop:=0<=b.cl/\∃r,hn B b.prev r/\eg n q (r+if b.aT then 0 else 1) i b.cl.toNat
def yR(R:Nat->Int)(i m:Nat)(e:aZ):Prop:=∀x∈n.bj,x.src=i->x.fg=m->∀(S:aV)(c:aZ),n.ar[x.dst.toNat]? =I S->S.aO[x.ea.toNat]? =I c->e.aQ<=c.aR->
 (x.aT=U∨(e.ct=U/\c.cM=U))->S.ds=ad->cD (R x.dst.toNat) x.ea
structure nC(P:Nat->co)(R:Nat->Int)(i k:Nat):Prop where
 cM:∀r c,de n i k r c->c.cM=U->cD (P c.stop.toNat).cn c.aR->cD (R i) k
 bl:cD (R i) k->∀r e,de n i (k+1) r e->(e.ct=U->cD (P e.stop.toNat).aj e.aQ/\cD (P e.stop.toNat).cn (e.aQ+dS n e.stop)/\cD (P e.stop.toNat).rd e.aQ)/\yR n R i (k+1) e
structure th(P:Nat->co)(R:Nat->Int):Prop where
 eP:rQ n q P
 bD:∀s:Nat,(P s).rd≠-1->ma n P s (P s).rd
 nP:∀i k r e,de n i (k+1) r e->nC n P R i k
end
section
variable{n:ak}{q:aG}{C:List Int}
def rS.a1{B:List (a7×Int)}{s:Nat}{t l:Int}(h:rS n q C B s t l)(X:List (a7×Int)):rS n q C (B++X) s t l:=by obtain⟨a,b,c,r,d,e⟩:=h;exact⟨a,b,c,r,d.a1 X,e⟩
def rT.a1{B:List (a7×Int)}{s:Nat}{t l:Int}(h:rT n q C B s t l)(X:List (a7×Int)):rT n q C (B++X) s t l:=by obtain⟨a,b,c,r,d,e⟩:=h;exact⟨a,b,c,r,d.a1 X,e⟩
def tq.a1{B:List (a7×Int)}{i:Nat}{b:fK}(h:tq n q B i b)(X:List (a7×Int)):tq n q (B++X) i b:=by obtain⟨a,r,c,d⟩:=h;exact⟨a,r,c.a1 X,d⟩
def acN{B:List (a7×Int)}{P:Nat->co}(h:kP (rS n q C B) (rT n q C B) P)(X:List (a7×Int)):kP (rS n q C (B++X)) (rT n q C (B++X)) P:=λs=>⟨λg=>((h s).1 g).a1 X,λg=>((h s).2 g).a1 X⟩
theorem ach{P:Nat->co}{R:Nat->Int}(ae:∀x∈n.bj,(0<=x.dst/\0<=x.ea)/\(x.aT=U->x.ea=0))(N:∀r∈n.ar,∀c∈r.aO,0<=c.stop)(s:th n q P R){r i b:Nat}(D:eg n q r i b):∀S e,de n i (b+1) S e->cD (R i) b:=by
 have key:∀{j a m:Nat}{S:aV}{e:aZ},(∀S e,de n j (a+1) S e->cD (R j) a)->a<m->de n j m S e->(e.ct=U->cD (P e.stop.toNat).aj e.aQ/\cD (P e.stop.toNat).cn (e.aQ+dS n e.stop)/\cD (P e.stop.toNat).rd e.aQ)/\yR n R j m e:=by intro j a m S e o t g;have Z:=(az.1 g.cV).1;have h:=o S _ ⟨g.cy,g.ds,cG (by omega:a+1<S.aO.length)⟩;obtain⟨m,rfl⟩:∃k,m=k+1:=⟨m -1,J⟩;exact(s.nP j m S e g).bl (h.le J) S e g
 induction D with
 |eP h l v H=>intro S e d;exact(s.nP _ _ _ _ d).cM _ _ h l (by rw[v];exact s.eP.cn.le H)
 |kA M h l v H O Q=>intro S e d;exact(s.nP _ _ _ _ d).cM _ _ v H (by rw[O];exact(s.eP.bD _ M h l).2.le Q)
 |bl D t g C d A u w o=>intro T f z;obtain⟨h,_⟩:=key o t g;exact(s.nP _ _ _ _ z).cM _ _ d A (by rw[u];exact(h C).2.1.le w)
 |@qV r j a m i b S E e B x D t g C d A G u K L X V w o=>intro T f z;obtain⟨_,h⟩:=key o t g;have y:x.dst.toNat=i:=J;have F:x.ea.toNat=b:=J;have l:=h x G K L E B (by rw[y];exact d.cy) (by rw[F];exact d.cV) w (.inr ⟨C,A⟩) d.ds;rw[y,V] at l;exact l
 |@bD r j a m i b S E e B p D t g C M Y aa d A u w o=>intro T f z;obtain⟨h,_⟩:=key o t g;have l:=(h C).2.2;have W:=N _ (bI g.cy) _ (bI g.cV);have v:=s.bD _ l.1;rw[fr W] at v;have:=l.2;exact(s.nP _ _ _ _ z).cM _ _ d A (by rw[u];exact(v p M Y J).2.le J)
 |@aT r j a m i S E e B x D t g d G u K L X w o=>intro T f z;obtain⟨_,h⟩:=key o t g;have y:x.dst.toNat=i:=J;have F:=(ae x G).2 u;have l:=h x G K L E B (by rw[y];exact d.cy) (by rw[F];exact d.cV) w (.inl u) d.ds;rw[y,F] at l;exact l
theorem acf{P:Nat->co}{R:Nat->Int}(ae:∀x∈n.bj,(0<=x.dst/\0<=x.ea)/\(x.aT=U->x.ea=0))(p:∀r∈n.ar,∀c∈r.aO,0<=c.stop)(h:th n q P R){r:Nat}{s t:Int}(f:fU n q r s t):cD (P s.toNat).aj t:=by
 have key:∀{r j a m:Nat}{S:aV}{e:aZ},eg n q r j a->a<m->de n j m S e->e.ct=U->cD (P e.stop.toNat).aj e.aQ/\cD (P e.stop.toNat).rd e.aQ:=by intro r j a m S e i f b g;have y:=(az.1 b.cV).1;have l:=ach ae p h i S _ ⟨b.cy,b.ds,cG (by omega:a+1<S.aO.length)⟩;obtain⟨m,rfl⟩:∃k,m=k+1:=⟨m -1,J⟩;obtain⟨d,_⟩:=(h.nP j m S e b).bl (l.le J) S e b;exact⟨(d g).1,(d g).2.2⟩
 cases f with
 |eP=>exact h.eP.aj
 |kA o l d=>exact(h.eP.bD _ o l d).1
 |bl i f b g=>exact(key i f b g).1
 |bD i f b g o w z=>have d:=(key i f b g).2;have u:=h.bD _ d.1;have v:=p _ (bI b.cy) _ (bI b.cV);rw[fr v] at u;have:=d.2;exact(u _ o w J).1.le J
structure nK(n:ak)(T:Int)(P ot:Nat->co)(R wm:Nat->Int):Prop where
 imp:iu P ot
 rd:∀s,gi (ot s).rd (P s).rd
 run:∀i,gi (wm i) (R i)
 xZ:∀s,(ot s).cn=(P s).cn∨T<=(ot s).cn
 x2:∀i,wm i=R i∨∃S c,n.ar[i]? =I S/\S.aO[(wm i).toNat]? =I c/\0<=wm i/\T<=c.aR
def nK.refl(T:Int)(P:Nat->co)(R:Nat->Int):nK n T P P R R:=⟨.refl P,λ_=>.refl _,λ_=>.refl _,λ_=>.inl rfl,λ_=>.inl rfl⟩
def nK.trans{T:Int}{P c d:Nat->co}{R f g:Nat->Int}(a:nK n T P c R f)(b:nK n T c d f g):nK n T P d R g:=
 ⟨a.imp.trans b.imp,λs=>(b.rd s).trans (a.rd s),λi=>(b.run i).trans (a.run i),λs=>(b.xZ s).elim (λe=>e▸a.xZ s) .inr,λi=>(b.x2 i).elim (λe=>e▸a.x2 i) .inr⟩
def nC.cj{T:Int}{P s:Nat->co}{R o:Nat->Int}{i k:Nat}(w:∀S∈n.ar,∀(a b:Nat)(c d:aZ),S.aO[a]? =I c->S.aO[b]? =I d->a<=b->c.aR<=d.aR)
 (h:nC n P R i k)(g:nK n T P s R o){S:aV}{c:aZ}(l:de n i k S c)(F:c.aR<T):nC n s o i k:=by
 refine⟨λr p m v al=>?_,λal r e m=>?_⟩
 . have f:=m.cy;rw[l.cy] at f;cases f;have j:=m.cV;rw[l.cV] at j;cases j;rcases g.xZ c.stop.toNat with e|e
   . exact(g.run i).fy (h.cM _ _ l v (by rw[<-e];exact al))
   . have:=al.2;omega
 . have u:o i=R i:=by
    rcases g.x2 i with e|⟨t,p,f,j,D,E⟩
    . exact e
    . rw[l.cy] at f;cases f;have:=w S (bI l.cy) _ _ _ _ j l.cV (by have:=al.2;omega);omega
   obtain⟨f,j⟩:=h.bl (u▸al) r e m;exact⟨λq=>⟨(g.imp _).1.fy (f q).1,(g.imp _).2.fy (f q).2.1,(g.rd _).fy (f q).2.2⟩,λx y a b t p z bP A B C=>(g.run _).fy (j x y a b t p z bP A B C)⟩
def pt(P a:Nat->co)(R b:Nat->Int):Prop:=(∀s,(a s).aj=(P s).aj/\(a s).cn=(P s).cn)/\∀i,b i=R i
def pt.refl(P:Nat->co)(R:Nat->Int):pt P P R R:=⟨λ_=>⟨rfl,rfl⟩,λ_=>rfl⟩
def pt.trans{P c d:Nat->co}{R e f:Nat->Int}(a:pt P c R e)(b:pt c d e f):pt P d R f:=⟨λs=>⟨(b.1 s).1.trans (a.1 s).1,(b.1 s).2.trans (a.1 s).2⟩,λi=>(b.2 i).trans (a.2 i)⟩
def nC.same{P d:Nat->co}{R g:Nat->Int}{i k:Nat}(h:nC n P R i k)(ae:pt P d R g)(w:∀s,gi (d s).rd (P s).rd):nC n d g i k:=by
 refine⟨λr c f v al=>?_,λal r e f=>?_⟩
 . rw[ae.2];exact h.cM r c f v (by rw[<-(ae.1 _).2];exact al)
 . rw[ae.2] at al;obtain⟨q,t⟩:=h.bl al r e f;refine⟨λu=>?_,λx y a b j p z bP A B C=>?_⟩
   . obtain⟨l,m,o⟩:=q u;exact⟨by rw[(ae.1 _).1];exact l,by rw[(ae.1 _).2];exact m,(w _).fy o⟩
   . rw[ae.2];exact t x y a b j p z bP A B C
def fY(n:ak)(q:aG):List Int:=(q.aM::(q.aM+dS n q.src)::n.bw.map λp=>q.aM+p.bs)++n.ar.flatMap λr=>r.aO.flatMap λe=>e.aQ::(e.aQ+dS n e.stop)::n.bw.map λp=>e.aQ+p.bs
def ZF(ok:di n):(fY n q).length<=2666:=by
 have i:∀r∈n.ar,(r.aO.flatMap λe=>e.aQ::(e.aQ+dS n e.stop)::n.bw.map λp=>e.aQ+p.bs).length<=6*62:=λr b=>by
  have m:=ok.aO r b;have k:=ok.bw;rw[List.length_flatMap];have:∀l:List aZ,(l.map λe=>(e.aQ::(e.aQ+dS n e.stop)::n.bw.map λp=>e.aQ+p.bs).length).sum<=l.length*62:=by
   intro l;induction l with
   |nil=>simp
   |cons a l c=>simp only[gg,List.sum_cons,cc,cz] at c⊢;omega
  have:=this r.aO;omega
 have j:∀l:List aV,(∀r∈l,r∈n.ar)->(l.flatMap λr=>r.aO.flatMap λe=>e.aQ::(e.aQ+dS n e.stop)::n.bw.map λp=>e.aQ+p.bs).length<=l.length*372:=by
  intro l;induction l with
  |nil=>intro _;simp
  |cons a l c=>intro d;have f:=c λr b=>d r (fs _ b);have g:=i a (d a (ft ..));simp only[List.flatMap_cons,b0,cc] at f g⊢;omega
 have o:=j n.ar λ_ h=>h;have s:=ok.ar;have k:=ok.bw;simp only[fY,b0,cc,cz];omega
def ZH:q.aM∈fY n q/\q.aM+dS n q.src∈fY n q/\∀p∈n.bw,q.aM+p.bs∈fY n q:=
 ⟨dv.2 (.inl (ft ..)),dv.2 (.inl (fs _ (ft ..))),λp a=>dv.2 (.inl (fs _ (fs _ (gY.2 ⟨p,a,rfl⟩))))⟩
def ZG{i k:Nat}{r:aV}{e:aZ}(h:de n i k r e):e.aQ∈fY n q/\e.aQ+dS n e.stop∈fY n q/\∀p∈n.bw,e.aQ+p.bs∈fY n q:=by have key:∀x:Int,x∈(e.aQ::(e.aQ+dS n e.stop)::n.bw.map λp=>e.aQ+p.bs)->x∈fY n q:=λx b=>dv.2 (.inr (List.mem_flatMap.2 ⟨r,bI h.cy,List.mem_flatMap.2 ⟨e,bI h.cV,b⟩⟩));exact⟨key _ (ft ..),key _ (fs _ (ft ..)),λp a=>key _ (fs _ (fs _ (gY.2 ⟨p,a,rfl⟩)))⟩
end
theorem zp{l:List aZ}{N i g:Int}(h:rD l N i g):∀(d a:Nat)(x y:aZ),l[a]? =I x->l[a+d]? =I y->x.aR<=y.aR/\(0<d->x.aR<=y.aQ)
 |0,a,x,y,c,b=>by rw[g_,c] at b;cases b;exact⟨fS _,λh=>aJ h J⟩
 |d+1,a,x,y,c,b=>by have n:=(az.1 b).1;have e:l[a+d]? =I (l[a+d]'J):=cG J;have j:=(zp h d a x _ c e).1;obtain⟨_,k,f⟩:=h.2.2 (a+(d+1)) y b;have m:=(f _ J (by rw[show a+(d+1) -1=a+d by omega];exact e)).2;exact⟨J,λ_=>J⟩
structure jH(n:ak):Prop where
 bj:∀x∈n.bj,(0<=x.dst/\0<=x.ea)/\(x.aT=U->x.ea=0)
 iY:∀x∈n.bj,(0<=x.src/\x.src<n.ar.length)/\∃b d,n.ar[x.dst.toNat]? =I b/\b.aO[x.ea.toNat]? =I d
 stop:∀r∈n.ar,∀c∈r.aO,0<=c.stop/\c.stop<n.aB.length
 bw:∀p∈n.bw,(0<=p.dst/\p.dst<n.aB.length)/\(0<=p.src/\p.src<n.aB.length)/\1<=p.bs/\p.bs<=14400
 aM:∀r∈n.ar,∀c∈r.aO,0<=c.aQ/\c.aQ<=c.aR/\c.aR<=3155932800
 mono:∀S∈n.ar,∀(a b:Nat)(c d:aZ),S.aO[a]? =I c->S.aO[b]? =I d->a<=b->c.aR<=d.aR
 next:∀S∈n.ar,∀(a b:Nat)(c d:aZ),S.aO[a]? =I c->S.aO[b]? =I d->a<b->c.aR<=d.aQ
 len:∀r∈n.ar,2<=r.aO.length/\r.aO.length<=6
 ar:n.ar.length<=7
 aB:n.aB.length<=5
 xD:n.bj.length<=30
 JQ:n.bw.length<=60
 uT:∀s∈n.aB,0<=s.change/\s.change<=3600
def vV{n:ak}(ok:di n):jH n:=by
 have m:∀r∈n.ar,rD r.aO n.aB.length 0 3155932800:=λr h=>by obtain⟨i,f⟩:=eb h;exact(ok.ok.ar.2 i r f).2.2.2.2.2.1
 have t:∀r∈n.ar,∀c∈r.aO,(0<=c.stop/\c.stop<n.aB.length)/\(0<=c.aQ/\c.aQ<=c.aR/\c.aR<=3155932800):=λr h c A=>by obtain⟨i,f⟩:=eb A;obtain⟨a,b,_⟩:=(m r h).2.2 i c f;exact⟨a,b⟩
 have u:∀x∈n.bj,((0<=x.dst/\0<=x.ea)/\(x.aT=U->x.ea=0))/\(0<=x.src/\x.src<n.ar.length)/\∃b d,n.ar[x.dst.toNat]? =I b/\b.aO[x.ea.toNat]? =I d:=λx l=>by obtain⟨i,f⟩:=eb l;have h:=ok.ok.bj.2 i x f;have g:=h.src;have j:=h.dst;have y:n.ar[x.src.toNat]? =I (n.ar[x.src.toNat]'J):=cG J;have q:n.ar[x.dst.toNat]? =I (n.ar[x.dst.toNat]'J):=cG J;obtain⟨_,v,_,w⟩:=h.aO _ _ y q;exact⟨⟨⟨j.1,v.1⟩,λae=>(w ae).2⟩,g,_,_,q,cG J⟩
 refine⟨λx l=>(u x l).1,λx l=>(u x l).2,λr h c k=>(t r h c k).1,λp B=>?_,λr h c k=>(t r h c k).2,λS o a b c d g j z=>?_,λS o a b c d g j z=>?_,λr h=>⟨(m r h).1,ok.aO r h⟩,ok.ar,ok.aB,ok.bj,ok.bw,λs h=>?_⟩
 . obtain⟨i,f⟩:=eb B;have h:=(ok.ok.sO i p f).1;exact⟨h.2.1,h.1,h.2.2⟩
 . obtain⟨e,rfl⟩:∃e,b=a+e:=⟨b -a,J⟩;exact(zp (m S o) e a c d g j).1
 . obtain⟨e,rfl⟩:∃e,b=a+e:=⟨b -a,J⟩;exact(zp (m S o) e a c d g j).2 J
 . obtain⟨i,f⟩:=eb h;exact(ok.ok.aB.2 i s f).2.2.1
def jH.wX{n:ak}(F:jH n)(s:Int):0<=dS n s/\dS n s<=3600:=by
 unfold dS;split
 . rename_i x a;exact F.uT x (bI a)
 . omega
theorem adI{n:ak}{q:aG}(F:jH n)(O:0<=dS n q.src)(D:∀s:Int,0<=s->0<=dS n s){r i b:Nat}(p:eg n q r i b):∀R B,de n i b R B->q.aM<=B.aR:=by
 have eV:∀{i b:Nat}{R C:aV}{B w:aZ},de n i b R B->de n i b C w->w=B:=λh k=>by have d:=h.cy;rw[k.cy] at d;cases d;have o:=h.cV;rw[k.cV] at o;cases o;rfl
 have key:∀{j a m:Nat}{S:aV}{e:aZ},(∀R B,de n j a R B->q.aM<=B.aR)->a<m->de n j m S e->q.aM<=e.aQ:=λ{j a m S e} g f c=>by have P:=(az.1 c.cV).1;have d:S.aO[a]? =I (S.aO[a]'J):=cG J;have o:=g S _ ⟨c.cy,c.ds,d⟩;have:=F.next S (bI c.cy) a m _ e d c.cV f;omega
 induction p with
 |eP d o x y=>intro R B h;rw[eV d h];split at y<;>omega
 |kA t d o x y L M=>intro R B h;rw[eV x h];have:=(F.bw _ t).2.2;omega
 |bl p f c A l z u v g=>intro R B h;rw[eV l h];have d:=key g f c;have o:=D _ (F.stop _ (bI c.cy) _ (bI c.cV)).1;omega
 |qV p f c A l z K u G H E N v g=>intro R B h;rw[eV l h];have:=key g f c;omega
 |bD p f c A t T Q l z u v g=>intro R B h;rw[eV l h];have:=key g f c;have:=(F.bw _ t).2.2;omega
 |aT p f c l K u G H E v g=>intro R B h;rw[eV l h];have:=key g f c;omega
theorem De{n:ak}{q:aG}(F:jH n)(i:0<=dS n q.src)(k:∀s:Int,0<=s->0<=dS n s){r:Nat}{s t:Int}(c:fU n q r s t):q.aM<=t:=by
 have key:∀{r j a m:Nat}{S:aV}{e:aZ},eg n q r j a->a<m->de n j m S e->q.aM<=e.aQ:=λ{r j a m S e} d c b=>by have o:=(az.1 b.cV).1;have f:S.aO[a]? =I (S.aO[a]'J):=cG J;have h:=adI (F) i k d S _ ⟨b.cy,b.ds,f⟩;have:=F.next S (bI b.cy) a m _ e f b.cV c;omega
 cases c with
 |eP=>exact fS _
 |kA g f h=>have:=(F.bw _ g).2.2;omega
 |bl d c b l=>exact key d c b
 |bD d c b l g u p=>have:=key d c b;have:=(F.bw _ g).2.2;omega
def f7(n:Nat)(f:Nat->List V):List (List V):=(b8 n).map f
def ep(n:Nat)(f:Nat->List V):(f7 n f).length=n:=by simp[f7]
def g8{n i:Nat}(f:Nat->List V)(h:i<n):(f7 n f)[i]? =I (f i):=by simp[f7,h]
def v1{n:Nat}{R:List (List V)}{f:Nat->List V}(b:R.length=n)(h:∀i,i<n->R[i]? =I (f i)):R=f7 n f:=by
 refine lp λi=>?_;by_cases a:i<n
 . rw[h i a,g8 _ a]
 . rw[jd J,jd (by rw[ep];omega)]
def v2(n i:Nat)(f:Nat->List V)(x:List V):(f7 n f).set i x=f7 n (cb f i x):=by
 refine v1 (by rw[cW,ep]) λj a=>?_;rw[List.getElem?_set];by_cases h:i=j
 . subst h;rw[aF rfl,aF (by rw[ep];exact a),fq]
 . rw[ax h,g8 _ a,hy _ _ (cA h)]
def uq{n:Nat}{f g:Nat->List V}(h:∀i,i<n->f i=g i):f7 n f=f7 n g:=v1 (ep n f) λi a=>by rw[g8 _ a,h i a]
def lb(p:co)(a:Int):List V:=[aa p.aj,aa p.rd,aa p.cn,aa p.fa,aa a,aa p.dl]
def dE(n:Nat)(P:Nat->co)(a:Nat->Int):List (List V):=f7 n λi=>lb (P i) (a i)
def Lz(n d:Nat)(P:Nat->co)(a:Nat->Int)(p:co)(r:Int):(dE n P a).set d (lb p r)=dE n (cb P d p) (cb a d r):=by
 rw[dE,v2];refine uq λi _=>?_;by_cases h:i=d
 . subst h;simp only[fq]
 . simp only[hy _ _ h]
def yk{α:Type}(P:Nat->α)(d:Nat):cb P d (P d)=P:=by
 funext i;by_cases h:i=d
 . subst h;rw[fq]
 . rw[hy _ _ h]
def eo(n:ak)(b c a e d f:V):au:=.box [.slice (n.aB.map Stop.row) n.ij,.slice (n.ey.map ec.row) n.rc,.slice (n.ar.map aV.row) n.jx,.slice (n.bj.map b1.row) n.lc,.slice (n.bw.map bb.row) n.la,
 .slice (n.bQ.bU.map cv.row) n.bQ.tag,aa n.bQ.hG,aa n.bQ.e4,aa n.bQ.kf,b,c,a,e,d,f]
theorem g7(a v r o:Nat):kx (.df a v r o)=I (.df a v r o):=rfl
theorem ET{M:Mem}{bn vn ns d:Nat}{P:Nat->co}{rl:Nat->Int}(p:co):M.set bn (.aj 6 ((dE ns P rl).set d [aa p.aj,aa p.rd,aa p.cn,aa p.fa,aa (rl d),aa p.dl]) vn 0)=M.set bn (.aj 6 (dE ns (cb P d p) rl) vn 0):=by have:=Lz ns d P rl p (rl d);rw[yk] at this;rw[<-this];rfl
def acr{M:Mem}{b:Nat}{B:au}(h:M[b]? =I B):M.set b B=M:=by obtain⟨c,a⟩:=az.1 h;rw[<-a,List.set_getElem_self]
def jX(p:co)(r l:Int):co:=⟨p.aj,p.rd,if p.cn=-1∨r<p.cn then r else p.cn,p.fa,if p.cn=-1∨r<p.cn then l else p.dl⟩
def sl(p:co)(a l:Int):co:=⟨if p.aj=-1∨a<p.aj then a else p.aj,p.rd,p.cn,if p.aj=-1∨a<p.aj then l else p.fa,p.dl⟩
def Ky{M:Mem}{b i f:Nat}{P:Nat->co}{a:Nat->Int}(g:M[b]? =I (.aj 6 (dE f P a) i 0)){d:Nat}(n:d<f)(r l:Int)(Q:Exit->av->Mem->Prop)(s:av)
 (j:aE s 3=aa r)(k:aE s 4=aa l)(h:aE s 10=.df b i d 0)(al:∀s,Q .normal s (M.set b (.aj 6 (dE f (cb P d (jX (P d) r l)) a) i 0))):ck aH zl Q s M:=by
 have t:=(az.1 g).1;have m:(dE f P a)[d]? =I [aa (P d).aj,aa (P d).rd,aa (P d).cn,aa (P d).fa,aa (a d),aa (P d).dl]:=g8 _ n;have o:∀B:au,(M.set b B)[b]? =I B:=λB=>bY t;have bP:∀x:List V,((dE f P a).set d x)[d]? =I x:=λx=>bY (by rw[dE,ep];exact n);have io:(P d).cn=-1∨r<(P d).cn->∀s,Q .normal s (M.set b (.aj 6 ((dE f P a).set d [aa (P d).aj,aa (P d).rd,aa r,aa (P d).fa,aa (a d),aa l]) i 0)):=λc=>by have:=ET (M:=M) (bn:=b) (vn:=i) (ns:=f) (d:=d) (P:=P) (rl:=a) (jX (P d) r l);simp only[jX,aF c] at this;rw[this];simpa only[jX,aF c] using al
 refine rx (aX 9) @g7 g m h ?_;apply aW<;>intro p
 . refine og @g7 g m j k h o bP @h3.{0} ?_;exact io (.inl p) _
 refine he @g7 g m j k h ?_;apply aW<;>intro q
 . refine og @g7 g m j k h o bP @h3.{0} ?_;exact io (.inr q) _
 . refine b6 j k h ?_;have e:jX (P d) r l=P d:=by
    rw[jX,ax J,ax J]
   rw[e,yk,acr g] at al;exact al _
def aaW{n:ak}{M:Mem}{f g k b:Nat}{G F K H L:V}{P:Nat->co}{h:Nat->Int}(t:M[f]? =I (eo n G (.an g k 0 b) F K H L))(j:M[g]? =I (.aj 6 (dE b P h) k 0)){d:Nat}(m:d<b)(a r l:Int):
 bx aH 59 [.ptr f 0,aa d,aa a,aa r,aa l] M (λv p=>v=.tuple []/\p=M.set g (.aj 6 (dE b (cb P d (fN (P d) a r l)) h) k 0)):=by
 have D:=(az.1 j).1;have o:(dE b P h)[d]? =I [aa (P d).aj,aa (P d).rd,aa (P d).cn,aa (P d).fa,aa (h d),aa (P d).dl]:=g8 _ m;have E:=e2 (n:=b) (i:=d) j m (by rw[dE,ep];exact bk _);have q:∀B:au,(M.set g B)[g]? =I B:=λB=>bY D;have bP:∀x:List V,((dE b P h).set d x)[d]? =I x:=λx=>bY (by rw[dE,ep];exact m);refine dX Hv ?_;simp only[eo] at t;simp only[dN];have io:∀s:av,(P d).aj=-1∨a<(P d).aj->aE s 3=aa r->aE s 4=aa l->aE s 10=.df g k d 0->ck aH zl (iT z9.results (k1 λv p=>v=.tuple []/\p=M.set g (.aj 6 (dE b (cb P d (fN (P d) a r l)) h) k 0))) s (M.set g (.aj 6 ((dE b P h).set d [aa a,aa (P d).rd,aa (P d).cn,aa l,aa (h d),aa (P d).dl]) k 0)):=λs c A C y=>by
  have:=ET (M:=M) (bn:=g) (vn:=k) (ns:=b) (d:=d) (P:=P) (rl:=h) (sl (P d) a l);simp only[sl,aF c] at this;rw[this];refine Ky (q _) m r l _ _ A C y λs=>?_;refine⟨rfl,?_⟩;rw[h3]
  congr 3
  funext i;by_cases u:i=d
  . subst u;simp only[fq,jX,fN,aF c]
  . simp only[hy _ _ u]
 refine he @b5 @g7 t E j o ?_;apply aW<;>intro w
 . refine he @g7 j o q bP @h3.{0} ?_;exact io _ (.inl w) rfl rfl rfl
 refine b6 @g7 j o ?_;apply aW<;>intro z
 . refine he @g7 j o q bP @h3.{0} ?_;exact io _ (.inr z) rfl rfl rfl
 . refine ah ?_;refine Ky j m r l _ _ rfl rfl rfl λs=>⟨rfl,?_⟩;have e:jX (P d) r l=fN (P d) a r l:=by
    rw[jX,fN,ax (c:=(P d).aj=-1∨a<(P d).aj) J,ax (c:=(P d).aj=-1∨a<(P d).aj) J]
   rw[e]
def j9(M:Mem)(v:V)(k:Nat):Prop:=(v=.slice [] .nil/\k=0)∨∃b ver R,v=.an b ver 0 k/\M[b]? =I (.aj 10 R ver 0)/\R.length=k
def kK(f:Nat)(M a:Mem):Prop:=∀(j:Nat)(B:au),M[j]? =I B->j≠f->(∀R v z,B≠.aj 10 R v z)->a[j]? =I B
def kK.refl(f:Nat)(M:Mem):kK f M M:=λ_ _ h _ _=>h
def kK.trans{f:Nat}{M c d:Mem}(a:kK f M c)(b:kK f c d):kK f M d:=λj B h e g=>b j B (a j B h e g) e g
def kK.a1(f:Nat)(M L:Mem):kK f M (M++L):=λ_ _ h _ _=>a0 h L
def j9.cj{M a:Mem}{v:V}{k:Nat}(h:j9 M v k)(f:∀(j:Nat) R ver,M[j]? =I (au.aj 10 R ver 0)->a[j]? =I (au.aj 10 R ver 0)):j9 a v k:=by
 rcases h with h|⟨b,ver,R,c,d,e⟩
 . exact .inl h
 . exact .inr ⟨b,ver,R,c,f _ _ _ d,e⟩
def j9.a1{M:Mem}{v:V}{k:Nat}(h:j9 M v k)(L:Mem):j9 (M++L) v k:=h.cj λ_ _ _ h=>a0 h L
def j9.set{M:Mem}{v:V}{k i:Nat}(h:j9 M v k){B:au}(a:M[i]? =I B)(c:∀R v z,B≠.aj 10 R v z)(X:au):j9 (M.set i X) v k:=h.cj λj R ver b=>by rw[bo λe=>by subst e;rw[b] at a;cases a;exact c _ _ _ rfl];exact b
def j9.push{M:Mem}{v:V}{k:Nat}(h:j9 M v k){r:List V}(f:r.length=10)(m:k<=100000000000):∃b ver N,cw ad 10 80 v (.slice [r] .full) M=I (.an b ver 0 (k+1),N)/\j9 N (.an b ver 0 (k+1)) (k+1)/\∀(j:Nat)(B:au),M[j]? =I B->(∀R v z,B≠.aj 10 R v z)->N[j]? =I B:=by
 rcases h with⟨rfl,rfl⟩|⟨b,ver,R,rfl,c,d⟩
 . refine⟨M.length,0,M++[.aj 10 [r] 0 0],?_,.inr ⟨_,0,[r],rfl,by simp,rfl⟩,λj B a _=>a0 a _⟩;simp[cw,dg,eU,dP,f]
 . have i:=(az.1 c).1;have l:(M.set b (.aj 10 (R++[r]) (ver+1) 0))[b]? =I (.aj 10 (R++[r]) (ver+1) 0):=bY i;refine⟨_,_,_,md (r:=r) c d f J,.inr ⟨b,ver+1,_,rfl,l,by simp[d]⟩,λj B a g=>?_⟩
   . rw[bo λe=>by subst e;rw[c] at a;cases a;exact g _ _ _ rfl];exact a
def aaR{n:ak}{M:Mem}{f k:Nat}{q d c i g l:V}(F:M[f]? =I (eo n q d c i g l))(L:j9 M q k)(K:k<=100000000000)(x:a7)(p:Int):
 bx aH 110 [.ptr f 0,.agg x.row,aa p] M (λv a=>v=aa k/\kK f M a/\∃z,a[f]? =I (eo n z d c i g l)/\j9 a z (k+1)):=by
 obtain⟨b,ver,N,t,u,w⟩:=(L.a1 [.box x.row]).push (r:=x.row++[aa p]) rfl K;have o:(M++[.box x.row])[f]? =I (eo n q d c i g l):=a0 F _;have m:=w f _ o (λ_ _ _ e=>by cases e);have G:=(az.1 m).1;have A:∀B:au,(N.set f B)[f]? =I B:=λB=>bY G;have y:eY (.an b ver 0 (k+1)) (N.set f (eo n (.an b ver 0 (k+1)) d c i g l))=I (aa ((k:Int)+1)):=by
  have D:=u.set m (λ_ _ _ e=>by cases e) (eo n (.an b ver 0 (k+1)) d c i g l);rcases D with⟨h,_⟩|⟨O,Q,R,e,C,P⟩
  . cases h
  . cases e;have:=jZ (n:=k+1) C;rw[Int.natCast_succ] at this;exact this
 have s:(M++[au.box x.row])[M.length]? =I (.box x.row):=by simp
 have fin:dN aH z8 [.ptr f 0,.agg x.row,aa p] M (λv a=>v=aa k/\a=N.set f (eo n (.an b ver 0 (k+1)) d c i g l)):=by simp only[dN];simp only[eo] at o m y⊢;simp only[a7.row,fG,eH] at t o s;refine oe @a7.row.eq_1 @b5 o s t m A y ?_;omega
 refine bx.mono (dX Hq fin) λv a h=>?_;obtain⟨rfl,rfl⟩:=h;refine⟨rfl,λj B H J E=>?_,_,A _,u.set m (λ_ _ _ e=>by cases e) _⟩;rw[bo (cA J)];exact w j B (a0 H _) E
def iN(f b:Nat)(M a:Mem):Prop:=∀(j:Nat)(B:au),M[j]? =I B->j≠f->j≠b->(∀R v z,B≠.aj 10 R v z)->a[j]? =I B
def iN.refl(f a:Nat)(M:Mem):iN f a M M:=λ_ _ h _ _ _=>h
def iN.trans{f c:Nat}{M d e:Mem}(a:iN f c M d)(b:iN f c d e):iN f c M e:=λj B k g h i=>b j B (a j B k g h i) g h i
def iN.a1(f a:Nat)(M L:Mem):iN f a M (M++L):=λ_ _ h _ _ _=>a0 h L
def iN.AZ{f c:Nat}{M b:Mem}(a:kK f M b):iN f c M b:=λj B d e _ g=>a j B d e g
def iN.set{f a:Nat}(M:Mem)(B:au):iN f a M (M.set a B):=λj C b _ c _=>by rw[bo (cA c)];exact b
structure jj(n:ak)(f bn vn k:Nat)(xp rv ub xv:V)(P:Nat->co)(rl:Nat->Int)(M:Mem):Prop where
 c4:∃lv,M[f]? =I (eo n lv (.an bn vn 0 n.aB.length) xp rv ub xv)/\j9 M lv k
 ky:M[bn]? =I (.aj 6 (dE n.aB.length P rl) vn 0)
def jj.ne{n:ak}{f a j k:Nat}{c i d l:V}{P:Nat->co}{g:Nat->Int}{M:Mem}(h:jj n f a j k c i d l P g M):f≠a/\f<M.length/\a<M.length:=by obtain⟨m,b,_⟩:=h.c4;exact⟨(λe=>by rw[e,h.ky] at b;cases b),(az.1 b).1,(az.1 h.ky).1⟩
def jj.a1{n:ak}{f a g k:Nat}{b e c i:V}{P:Nat->co}{d:Nat->Int}{M:Mem}(h:jj n f a g k b e c i P d M)(L:Mem):jj n f a g k b e c i P d (M++L):=by obtain⟨m,j,l⟩:=h.c4;exact⟨⟨m,a0 j L,l.a1 L⟩,a0 h.ky L⟩
def jj.vU{n:ak}{f d g k:Nat}{j o l p:V}{P i:Nat->co}{t m:Nat->Int}{M:Mem}(h:jj n f d g k j o l p P t M):jj n f d g k j o l p i m (M.set d (.aj 6 (dE n.aB.length i m) g 0)):=by obtain⟨s,q,r⟩:=h.c4;obtain⟨a,b,c⟩:=h.ne;exact⟨⟨s,by rw[bo (cA a)];exact q,r.set h.ky (λ_ _ _ e=>by cases e) _⟩,bY c⟩
def jj.imp{n:ak}{f c o k:Nat}{g m i p:V}{P:Nat->co}{j:Nat->Int}{M:Mem}(h:jj n f c o k g m i p P j M){d:Int}(t:0<=d)(w:d<n.aB.length)(a r l:Int):
 bx aH 59 [.ptr f 0,aa d,aa a,aa r,aa l] M (λv b=>v=.tuple []/\iN f c M b/\jj n f c o k g m i p (cb P d.toNat (fN (P d.toNat) a r l)) j b):=by
 obtain⟨d,rfl⟩:∃x:Nat,d=x:=⟨d.toNat,J⟩;obtain⟨y,s,u⟩:=h.c4;refine bx.mono (aaW s h.ky (by omega:d<n.aB.length) a r l) λv b ⟨e,q⟩=>?_;subst q;exact⟨e,iN.set _ _,h.vU⟩
def jj.add{n:ak}{f b j k:Nat}{c i d l:V}{P:Nat->co}{g:Nat->Int}{M:Mem}(h:jj n f b j k c i d l P g M)(s:k<=100000000000)(x:a7)(p:Int):
 bx aH 110 [.ptr f 0,.agg x.row,aa p] M (λv a=>v=aa k/\kK f M a/\jj n f b j (k+1) c i d l P g a):=by
 obtain⟨u,q,r⟩:=h.c4;refine bx.mono (aaR q r s x p) λv a ⟨e,bh,t,m,o⟩=>?_;exact⟨e,bh,⟨t,m,o⟩,bh _ _ h.ky (cA h.ne.1) (λ_ _ _ e=>by cases e)⟩
structure m_(n:ak)(s t:Int)(m:Nat)(P ot:Nat->co):Prop where
 imp:iu P ot
 rd:∀s,(ot s).rd=(P s).rd
 bD:∀(i:Nat)(p:bb),i<m->n.bw[i]? =I p->p.src=s->t+p.bs<=3155932800->cD (ot p.dst.toNat).aj (t+p.bs)/\cD (ot p.dst.toNat).cn (t+p.bs)
 snd:∀A D:Nat->Int->Int->Prop,kP A D P->(∀p∈n.bw,p.src=s->t+p.bs<=3155932800->∀l,A p.dst.toNat (t+p.bs) l/\D p.dst.toNat (t+p.bs) l)->kP A D ot
def m_.refl(n:ak)(s t:Int)(P:Nat->co):m_ n s t 0 P P:=⟨.refl P,λ_=>rfl,λ_ _ h=>aJ h (c9 _),λ_ _ h _=>h⟩
theorem m_.skip{n:ak}{s t:Int}{m:Nat}{P a:Nat->co}(h:m_ n s t m P a){p:bb}(e:n.bw[m]? =I p)(d:¬(p.src=s/\t+p.bs<=3155932800)):m_ n s t (m+1) P a:=
 ⟨h.imp,h.rd,λi q f al b c=>by
   rcases eT i m with g|g
   . exact h.bD i q g al b c
   . obtain rfl:i=m:=J;rw[e] at al;cases al;exact aJ ⟨b,c⟩ d,h.snd⟩
def m_.step{n:ak}{s t:Int}{m:Nat}{P f:Nat->co}(h:m_ n s t m P f){p:bb}(j:n.bw[m]? =I p)(r:p.src=s)(u:t+p.bs<=3155932800)(o:0<=t+p.bs)(l:Int):
 m_ n s t (m+1) P (cb f p.dst.toNat (fN (f p.dst.toNat) (t+p.bs) (t+p.bs) l)):=by
 obtain⟨a,b,c,d,e⟩:=vu f p.dst.toNat (l:=l) o o;refine⟨h.imp.trans a,λs=>(b s).trans (h.rd s),λi q v al aD ba=>?_,λA D ae k=>e A D (h.snd A D ae k) (k p (bI j) r u l).1 (k p (bI j) r u l).2⟩;rcases eT i m with g|g
 . obtain⟨x,y⟩:=h.bD i q g al aD ba;exact⟨(a _).1.fy x,(a _).2.fy y⟩
 . obtain rfl:i=m:=J;rw[j] at al;cases al;exact⟨c,d⟩
def m_.all{n:ak}{s t:Int}{P a:Nat->co}(h:m_ n s t n.bw.length P a):ma n a s t:=λp e c d=>by obtain⟨i,b⟩:=eb e;exact h.bD i p (az.1 b).1 b c d
def KB{n:ak}(F:jH n){M:Mem}{f d w k:Nat}{m u o y:V}{P:Nat->co}{r:Nat->Int}(H:jj n f d w k m u o y P r M)(af:k+60<=100000000000)(s t q:Int)(am:0<=t/\t<=3155932800):
 bx aH 60 [.ptr f 0,aa s,aa t,aa q] M (λv z=>v=.tuple []/\iN f d M z/\∃a b,a<=k+60/\jj n f d w a m u o y b r z/\m_ n s t n.bw.length P b):=by
 have ai:=F.JQ;obtain⟨an,G,ae⟩:=H.c4;refine dX HB ?_;simp only[eo] at G;simp only[dN];refine bN @b5 G ?_;refine c6 n.bw (λi x N=>∃a b,x=[.ptr f 0,aa s,aa t,aa q,.slice (n.bw.map bb.row) n.la,aa n.bw.length,aa i]/\iN f d M N/\a<=k+i/\jj n f d w a m u o y b r N/\m_ n s t i P b) ⟨k,P,rfl,.refl _ _ _,bk _,H,.refl _ _ _ _⟩ ?_ ?_;rotate_left
 . rintro x N ⟨a,b,rfl,bh,Z,c,g⟩;refine aL @bV ?_;exact⟨bh,a,b,J,c,g⟩
 rintro i p x N j l T ⟨a,b,rfl,bh,Z,c,g⟩;have A:=λL=>cE N L;have K:∀(B X:au)(L:Mem),(N++B::L).set N.length X=N++X::L:=λB X L=>hZ N B X L;obtain⟨⟨W,Y⟩,_,aj,al⟩:=F.bw p (bI j);refine es T j @bb.row.eq_1 A K ?_;apply cF<;>intro D
 . refine ah ?_;exact bE l ⟨a,b,rfl,bh.trans (.a1 _ _ _ _),J,c.a1 _,g.skip j λh=>D h.1⟩
 refine ah ?_;apply cF<;>intro E
 . refine ah ?_;exact bE l ⟨a,b,rfl,bh.trans (.a1 _ _ _ _),J,c.a1 _,g.skip j λh=>E h.2⟩
 refine aL A ?_;refine ch ((c.a1 [.box p.row]).add J ⟨ad,0,0,0,s,p.dst,t,t+p.bs,ad⟩ q) ?_;rintro v a8 ⟨rfl,C,R⟩;have O:a8[N.length]? =I (.box [aa p.src,aa p.dst,aa p.bs,.bool p.bH]):=C _ _ (by rw[cE];rfl) (by have:=c.ne.2.1;omega) λ_ _ _ e=>by cases e
 refine aL O ?_;refine ch (R.imp W Y (t+p.bs) (t+p.bs) a) ?_;rintro v ab ⟨rfl,Q,S⟩;refine ah ?_;exact bE l ⟨_,_,rfl,(bh.trans (.a1 _ _ _ _)).trans ((iN.AZ C).trans Q),J,S,g.step j D E J a⟩
def d1(b:fK):List V:=[aa b.cl,aa b.prev,.bool b.aT]
def dR(n:Nat)(R:Nat->fK):List (List V):=f7 n λi=>d1 (R i)
def BV(n d:Nat)(R:Nat->fK)(b:fK):(dR n R).set d (d1 b)=dR n (cb R d b):=by
 rw[dR,v2];refine uq λi _=>?_;by_cases h:i=d
 . subst h;simp only[fq]
 . simp only[hy _ _ h]
def Bi(b:fK)(c:Int):bq aH 112 [.agg (d1 b),aa c] (λv=>v=.bool (decide (b.cl=-1∨c<b.cl))):=by
 refine bB Hl (aL @d1.eq_1 ?_);apply aW<;>intro a
 . refine ah ?_;simp[a]
 . refine ah ?_;simp[a]
def fV(g f:Nat)(M a:Mem):Prop:=∀(j:Nat)(B:au),M[j]? =I B->j≠f->(∀R v z,B≠.aj 10 R v z)->(j<g∨∃b,B=.box b)->a[j]? =I B
def fV.refl(g f:Nat)(M:Mem):fV g f M M:=λ_ _ h _ _ _=>h
def fV.trans{g f:Nat}{M c d:Mem}(a:fV g f M c)(b:fV g f c d):fV g f M d:=λj B k e h i=>b j B (a j B k e h i) e h i
def fV.a1(g f:Nat)(M L:Mem):fV g f M (M++L):=λ_ _ h _ _ _=>a0 h L
def fV.AZ{g f:Nat}{M b:Mem}(a:kK f M b):fV g f M b:=λj B c d e _=>a j B c d e
def fV.set{g f a:Nat}{M:Mem}(k:g<=a){h v z:Nat}{R:List (List V)}(d:M[a]? =I (.aj h R v z))(B:au):fV g f M (M.set a B):=λj C b _ _ c=>by
 rw[bo λe=>by
  subst e;rcases c with c|⟨i,rfl⟩
  . omega
  . rw[d] at b;cases b];exact b
def fV.JT{g f b:Nat}{M d:Mem}(a:iN f b M d)(h:g<=b){n v z:Nat}{R:List (List V)}(m:M[b]? =I (.aj n R v z)):fV g f M d:=λj B c k l i=>
 a j B c k (λe=>by
  subst e;rcases i with i|⟨o,rfl⟩
  . omega
  . rw[m] at c;cases c) l
def l8(g:Nat)(M:Mem)(v:V)(O:List Nat):Prop:=(v=.slice [] .nil/\O=[])∨∃o ver R,g<=o/\v=.an o ver 0 O.length/\M[o]? =I (.aj 1 R ver 0)/\O.length<=R.length/\R.take O.length=O.map λ(i:Nat)=>[aa (i:Int)]
def l8.cj{g:Nat}{M a:Mem}{v:V}{O:List Nat}(h:l8 g M v O)(f:∀(j:Nat) R ver,g<=j->M[j]? =I (au.aj 1 R ver 0)->a[j]? =I (au.aj 1 R ver 0)):l8 g a v O:=by
 rcases h with h|⟨o,ver,R,b,c,d,e⟩
 . exact .inl h
 . exact .inr ⟨o,ver,R,b,c,f _ _ _ b d,e⟩
theorem Qh{id ver len:Nat}{R:List (List V)}{x:V}{M:Mem}(b:M[id]? =I (.aj 1 R ver 0))(c:len<=R.length)(d:len<=1000000000):
 cw ad 1 8 (.an id ver 0 len) (.slice [[x]] .full) M=I (.an id (ver+1) 0 (len+1),M.set id (.aj 1 (R.take len++[[x]]) (ver+1) 0)):=by
 have a:decide ((len+1)*(2*8)<=2^48)=U:=bR;simp only[cw,dg,dP,cc,eu,dm,beq_self_eq_true,bi,eU,b,cR,Bool.true_and,be c,a,c_,decide_true];by_cases h:len=R.length
 . subst h;simp only[beq_self_eq_true,a,cR,bi,f_]
 . rw[beq_eq_false_iff_ne.2 h];rfl
def l8.push{g:Nat}{M:Mem}{v:V}{O:List Nat}(h:l8 g M v O)(m:g<=M.length)(l:O.length<=1000000000)(i:Nat):∃o ver N,cw ad 1 8 v (.slice [[aa (i:Int)]] .full) M=I (.an o ver 0 (O.length+1),N)/\l8 g N (.an o ver 0 (O.length+1)) (O++[i])/\
 (∀(j:Nat)(B:au),M[j]? =I B->(j<g∨∀R v z,B≠.aj 1 R v z)->N[j]? =I B)/\M.length<=N.length:=by
 rcases h with⟨rfl,rfl⟩|⟨o,ver,R,d,rfl,c,f,k⟩
 . refine⟨M.length,0,M++[.aj 1 [[aa (i:Int)]] 0 0],?_,.inr ⟨M.length,0,_,m,rfl,by simp;rfl,by simp,rfl⟩,λj B a _=>a0 a _,by simp⟩;simp[cw,dg,eU,dP]
 . have n:=(az.1 c).1;refine⟨o,ver+1,_,Qh c f l,.inr ⟨o,ver+1,_,d,by simp,bY n,?_,?_⟩,λj B a b=>?_,by rw[cW];exact bk _⟩
   . simp only[b0,fh,hP];omega
   . rw[eS (by simp only[b0,fh,hP];omega),k,iL];rfl
   . rw[bo λe=>by
      subst e;rcases b with b|b
      . omega
      . rw[c] at a;cases a;exact b _ _ _ rfl];exact a
def kB(n:ak)(i:Nat):List Nat:=(b8 n.bj.length).filter λk=>match n.bj[k]? with|some x=>decide (x.src=(i:Int))|none=>ad
def l9(g:Nat)(M:Mem)(x:V)(l:List Nat):Prop:=(x=.slice [] .nil/\l=[])∨∃a ver,a<g/\x=.an a ver 0 l.length/\M[a]? =I (.aj 1 (l.map λ(i:Nat)=>[aa (i:Int)]) ver 0)
def ly(n:ak)(g:Nat)(M:Mem)(v:V):Prop:=∃b ver a,b<g/\v=.an b ver 0 n.ar.length/\M[b]? =I (.b7 a ver)/\a.length=n.ar.length/\∀i,i<n.ar.length->∃x,a[i]? =I x/\l9 g M x (kB n i)
def ly.cj{n:ak}{g:Nat}{M d:Mem}{v:V}(h:ly n g M v)(l:∀(j:Nat) B,j<g->(∀c,B≠.box c)->(∀R v z,B≠.aj 10 R v z)->M[j]? =I B->d[j]? =I B):ly n g d v:=by
 obtain⟨b,ver,c,f,m,o,p,q⟩:=h;refine⟨b,ver,c,f,m,l _ _ f (λ_ e=>by cases e) (λ_ _ _ e=>by cases e) o,p,λi r=>?_⟩;obtain⟨x,aD,ba⟩:=q i r;refine⟨x,aD,?_⟩;rcases ba with ba|⟨a,t,k,bA,s⟩
 . exact .inl ba
 . exact .inr ⟨a,t,k,bA,l _ _ k (λ_ e=>by cases e) (λ_ _ _ e=>by cases e) s⟩
structure fv where
 P:Nat->co
 rl:Nat->Int
 L:Nat->fK
 R:Nat->fK
 O:List Nat
 k:Nat
structure jh(n:ak)(g f bn vn tw Mn br vr:Nat)(ub xv:V)(S:fv)(M:Mem):Prop where
 pl:jj n f bn vn S.k (.an tw Mn 0 n.ar.length) (.an br vr 0 n.ar.length) ub xv S.P S.rl M
 gd:M[tw]? =I (.aj 3 (dR n.ar.length S.L) Mn 0)
 run:M[br]? =I (.aj 3 (dR n.ar.length S.R) vr 0)
 ge:f<g/\g<=bn/\g<=tw/\g<=br/\tw≠br
 aX:l8 g M ub S.O
 out:ly n g M xv
def iM(n:ak)(g f:Nat)(S:fv)(M:Mem):Prop:=∃b h a e c i d j,jh n g f b h a e c i d j S M
def jh.a1{n:ak}{g f c j b i d k:Nat}{e l:V}{S:fv}{M:Mem}(h:jh n g f c j b i d k e l S M)(L:Mem):jh n g f c j b i d k e l S (M++L):=
 ⟨h.pl.a1 L,a0 h.gd L,a0 h.run L,h.ge,h.aX.cj λ_ _ _ _ a=>a0 a L,h.out.cj λ_ _ _ _ _ a=>a0 a L⟩
def iM.a1{n:ak}{g f:Nat}{S:fv}{M:Mem}(h:iM n g f S M)(L:Mem):iM n g f S (M++L):=by obtain⟨b,i,a,e,c,j,d,k,h⟩:=h;exact⟨b,i,a,e,c,j,d,k,h.a1 L⟩
def jh.lt{n:ak}{g f b i a e c j:Nat}{d k:V}{S:fv}{M:Mem}(h:jh n g f b i a e c j d k S M):g<=M.length:=by have:=h.pl.ne.2.2;have:=h.ge.2.1;omega
def jh.Bx{n:ak}{g f k o i m b d:Nat}{l p:V}{S:fv}{M:Mem}(h:jh n g f k o i m b d l p S M)(R:Nat->fK):jh n g f k o i m b d l p {S with R:=R} (M.set b (.aj 3 (dR n.ar.length R) d 0)):=by
 have r:=(az.1 h.run).1;have c:∀(j:Nat) B,M[j]? =I B->(∀R v z,B≠.aj 3 R v z)->(M.set b (.aj 3 (dR n.ar.length R) d 0))[j]? =I B:=λj B a q=>by rw[bo λe=>by subst e;rw[h.run] at a;cases a;exact q _ _ _ rfl];exact a
 obtain⟨s,aD,ba⟩:=h.pl.c4;refine⟨⟨⟨s,c _ _ aD (λ_ _ _ e=>by cases e),ba.cj λj R ver a=>c _ _ a (λ_ _ _ e=>by cases e)⟩,c _ _ h.pl.ky (λ_ _ _ e=>by cases e)⟩,?_,bY r,h.ge,h.aX.cj λj R ver _ a=>c _ _ a (λ_ _ _ e=>by cases e),h.out.cj λj B t _ _ a=>?_⟩
 . rw[bo (cA h.ge.2.2.2.2)];exact h.gd
 . rw[bo (by have:=h.ge;omega)];exact a
def jh.hd{n:ak}{g f i m b d k o:Nat}{l p:V}{S:fv}{M:Mem}(h:jh n g f i m b d k o l p S M)(L:Nat->fK):jh n g f i m b d k o l p {S with L:=L} (M.set b (.aj 3 (dR n.ar.length L) d 0)):=by
 have r:=(az.1 h.gd).1;have c:∀(j:Nat) B,M[j]? =I B->(∀R v z,B≠.aj 3 R v z)->(M.set b (.aj 3 (dR n.ar.length L) d 0))[j]? =I B:=λj B a q=>by rw[bo λe=>by subst e;rw[h.gd] at a;cases a;exact q _ _ _ rfl];exact a
 obtain⟨s,aD,ba⟩:=h.pl.c4;refine⟨⟨⟨s,c _ _ aD (λ_ _ _ e=>by cases e),ba.cj λj R ver a=>c _ _ a (λ_ _ _ e=>by cases e)⟩,c _ _ h.pl.ky (λ_ _ _ e=>by cases e)⟩,bY r,?_,h.ge,h.aX.cj λj R ver _ a=>c _ _ a (λ_ _ _ e=>by cases e),h.out.cj λj B t _ _ a=>?_⟩
 . rw[bo h.ge.2.2.2.2];exact h.run
 . rw[bo (by have:=h.ge;omega)];exact a
def jh.K9{n:ak}{g f c o b m d p:Nat}{F q:V}{S:fv}{M N:Mem}(h:jh n g f c o b m d p F q S M){l:V}{O:List Nat}(E:l8 g N l O)(w:∀(j:Nat)(B:au),M[j]? =I B->(j<g∨∀R v z,B≠.aj 1 R v z)->N[j]? =I B){i:V}
 (D:j9 M i S.k):jh n g f c o b m d p l q {S with O:=O} (N.set f (eo n i (.an c o 0 n.aB.length) (.an b m 0 n.ar.length) (.an d p 0 n.ar.length) l q)):=by
 obtain⟨G,aD,ba⟩:=h.pl.c4;have y:=w _ _ aD (.inr λ_ _ _ e=>by cases e);have A:=(az.1 y).1;have x:∀(j:Nat) B,N[j]? =I B->(∀s,B≠.box s)->(N.set f (eo n i (.an c o 0 n.aB.length) (.an b m 0 n.ar.length) (.an d p 0 n.ar.length) l q))[j]? =I B:=λj B a t=>by rw[bo λe=>by subst e;rw[y] at a;cases a;exact t _ rfl];exact a
 have r:∀(j:Nat) B,M[j]? =I B->(∀R v z,B≠.aj 1 R v z)->(∀s,B≠.box s)->(N.set f (eo n i (.an c o 0 n.aB.length) (.an b m 0 n.ar.length) (.an d p 0 n.ar.length) l q))[j]? =I B:=λj B a t u=>x j B (w j B a (.inr t)) u;exact⟨⟨⟨i,bY A,D.cj λj R ver a=>r _ _ a (λ_ _ _ e=>by cases e) (λ_ e=>by cases e)⟩,r _ _ h.pl.ky (λ_ _ _ e=>by cases e) (λ_ e=>by cases e)⟩,
  r _ _ h.gd (λ_ _ _ e=>by cases e) (λ_ e=>by cases e),r _ _ h.run (λ_ _ _ e=>by cases e) (λ_ e=>by cases e),h.ge,E.cj λj R ver _ a=>x _ _ a (λ_ e=>by cases e),h.out.cj λj B C u _ a=>x _ _ (w _ _ a (.inl C)) u⟩
def s8(n:ak)(i:Nat)(b:fK)(S a:fv):Prop:=(∃r,n.ar[i]? =I r/\r.ds=ad/\((S.R i).cl=-1∨b.cl<(S.R i).cl)/\a={S with R:=cb S.R i b,O:=S.O++[i]})∨(a=S/\∃r,n.ar[i]? =I r/\(r.ds=U∨¬((S.R i).cl=-1∨b.cl<(S.R i).cl)))
def Bh{n:ak}{g f:Nat}{S:fv}{M:Mem}(H:iM n g f S M){i:Nat}(x:i<n.ar.length)(b:fK)(ai:S.O.length<=1000000000):
 bx aH 111 [.ptr f 0,aa i,.agg (d1 b)] M (λv G=>v=.tuple []/\fV g f M G/\∃K,iM n g f K G/\s8 n i b S K):=by
 obtain⟨p,u,m,t,c,d,C,w,H⟩:=H;obtain⟨r,s⟩:∃r,n.ar[i]? =I r:=⟨n.ar[i],cG x⟩;have a:=H.a1 [.box (d1 b)];obtain⟨Z,aD,ba⟩:=a.pl.c4;have ay:=a.pl.ne;have k:=a.run;have X:(dR n.ar.length S.R)[i]? =I (d1 (S.R i)):=g8 _ x;have y:=e2 (n:=n.ar.length) (i:=i) k x (by rw[dR,ep];exact bk _);have Y:=lI k X rfl;have q:(M++[au.box (d1 b)])[M.length]? =I (.box (d1 b)):=by simp
 have ax:f<M.length:=H.pl.ne.2.1;have aw:f≠M.length:=J;have av:c<M.length:=(az.1 H.run).1;have z:=Lr (r:=d1 b) k X rfl rfl rfl rfl;have h:=a.Bx (cb S.R i b);rw[<-BV] at h;obtain⟨o,ver,N,D,ao,E,aA⟩:=h.aX.push h.lt ai i;obtain⟨am,F,ap⟩:=h.pl.c4;have l:((M++[au.box (d1 b)]).set c (au.aj 3 ((dR n.ar.length S.R).set i (d1 b)) d 0))[f]? =I (eo n Z (.an p u 0 n.aB.length) (.an m t 0 n.ar.length) (.an c d 0 n.ar.length) C w):=by rw[bo λe=>by subst e;rw[k] at aD;cases aD];exact aD
 rw[l] at F;have al:am=Z:=by simp only[eo,aC,au.box.injEq,List.cons.injEq] at F;exact F.2.2.2.2.2.2.2.2.2.1.symm
 subst al;have ab:((M++[au.box (d1 b)]).set c (au.aj 3 ((dR n.ar.length S.R).set i (d1 b)) d 0))[M.length]? =I (.box (d1 b)):=by rw[bo J];exact q
 have A:=E _ _ l (.inr λ_ _ _ e=>by cases e);have W:=h.K9 ao E ap;have V:=Bi (S.R i) b.cl;refine dX Hs ?_;simp only[eo,d1] at aD l A D W;simp only[d1] at q ab y Y z D V l A;simp only[go_sem] at z;simp only[dN];refine es @d1.eq_1 @b5 aD s @aV.row.eq_1 ?_;apply dt<;>intro L
 . refine ah ?_;exact⟨.a1 _ _ _ _,S,⟨p,u,m,t,c,d,C,w,a⟩,.inr ⟨rfl,r,s,.inl L⟩⟩
 refine he @d1.eq_1 @b5 aD q y Y ?_;refine bG V (ah ?_);apply cF<;>intro P
 . refine ah ?_;exact⟨.a1 _ _ _ _,S,⟨p,u,m,t,c,d,C,w,a⟩,.inr ⟨rfl,r,s,.inr P⟩⟩
 refine og @d1.eq_1 @b5 aD q y z l D A ?_;refine⟨λj B ae Q af T=>?_,_,⟨p,u,m,t,c,d,_,w,W⟩,.inl ⟨r,s,L,P,rfl⟩⟩;rw[bo (cA Q)];refine E _ _ (fV.set (f:=f) a.ge.2.2.2.1 k _ j B (a0 ae _) Q af T) (T.imp id λ⟨aq,e⟩=>?_);subst e;intro _ _ _ e;cases e
structure hD(n:ak)(S eB:fv):Prop where
 aj:∀s,(eB.P s).aj=(S.P s).aj/\(eB.P s).cn=(S.P s).cn/\(eB.P s).fa=(S.P s).fa/\(eB.P s).dl=(S.P s).dl
 rd:∀s,gi (eB.P s).rd (S.P s).rd
 gd:∀i,gi (eB.L i).cl (S.L i).cl
 run:∀i,gi (eB.R i).cl (S.R i).cl
 aX:∀i,i∈S.O->i∈eB.O
 new:∀i,(eB.R i).cl=(S.R i).cl∨i∈eB.O
 w:2*jS n.ar.length (λi=>(eB.R i).cl)+eB.O.length<=2*jS n.ar.length (λi=>(S.R i).cl)+S.O.length
def hD.refl(n:ak)(S:fv):hD n S S:=⟨λ_=>⟨rfl,rfl,rfl,rfl⟩,λ_=>.refl _,λ_=>.refl _,λ_=>.refl _,λ_ h=>h,λ_=>.inl rfl,bk _⟩
def hD.trans{n:ak}{S d e:fv}(a:hD n S d)(b:hD n d e):hD n S e:=by
 refine⟨λs=>?_,λs=>(b.rd s).trans (a.rd s),λs=>(b.gd s).trans (a.gd s),λs=>(b.run s).trans (a.run s),λi h=>b.aX i (a.aX i h),λi=>?_,fJ b.w a.w⟩
 . obtain⟨f,g,j,k⟩:=a.aj s;obtain⟨l,m,o,p⟩:=b.aj s;exact⟨l.trans f,m.trans g,o.trans j,p.trans k⟩
 . rcases b.new i with h|h
   . rcases a.new i with c|c
     . exact .inl (h.trans c)
     . exact .inr (b.aX i c)
   . exact .inr h
structure kQ(n:ak)(q:aG)(K:Nat)(S:fv):Prop where
 run:∀i,(S.R i).cl≠-1->i<n.ar.length/\0<=(S.R i).cl/\∃r,r<=K/\eg n q r i (S.R i).cl.toNat
 gd:∀i,(S.L i).cl≠-1->yv n q (K+1) i (S.L i).cl
 rd:∀s,(S.P s).rd≠-1->ox n q K s (S.P s).rd
 aX:∀i∈S.O,i<n.ar.length/\(S.R i).cl≠-1
def v3(R:Nat->fK)(i:Nat)(b:fK):(λj=>(cb R i b j).cl)=cb (λj=>(R j).cl) i b.cl:=by
 funext j;by_cases h:j=i
 . subst h;simp only[fq]
 . simp only[hy _ _ h]
def s8.qg{n:ak}{S e:fv}{i c:Nat}{b:fK}(p:i<n.ar.length)(d:b.cl=(c:Int))(o:c<6)(h:s8 n i b S e):hD n S e/\∀r,n.ar[i]? =I r->r.ds=ad->cD (e.R i).cl c:=by
 rcases h with⟨r,l,f,q,rfl⟩|⟨rfl,r,l,a⟩
 . have k:(λj=>(S.R j).cl) i=-1∨(c:Int)<(λj=>(S.R j).cl) i:=by rw[<-d];exact q
   have t:=KY (R:=λj=>(S.R j).cl) p o k;have s:∀j,gi (cb S.R i b j).cl (S.R j).cl:=λj=>by have:=Ax (R:=λj=>(S.R j).cl) (by omega:(0:Int)<=c) k j;rw[<-d,<-v3] at this;exact this
   refine⟨⟨λ_=>⟨rfl,rfl,rfl,rfl⟩,λ_=>.refl _,λ_=>.refl _,s,λj h=>je _ h,λj=>?_,?_⟩,λu _ _=>?_⟩
   . by_cases g:j=i
     . subst g;exact .inr (iq _ (dV.2 rfl))
     . left;show(cb S.R i b j).cl=_;rw[hy _ _ g]
   . rw[<-d,<-v3] at t;simp only[b0,hP];omega
   . show cD (cb S.R i b i).cl c;rw[fq,d];exact⟨J,fS _⟩
 . refine⟨.refl _ _,λu m f=>?_⟩;rw[l] at m;cases m;rcases a with a|a
   . rw[f] at a;cases a
   . rw[d] at a;exact⟨J,J⟩
def s8.snd{n:ak}{q:aG}{K:Nat}{S d:fv}{i c:Nat}{b:fK}(g:i<n.ar.length)(f:b.cl=(c:Int))(h:s8 n i b S d)(m:∀r,n.ar[i]? =I r->r.ds=ad->∃x,x<=K/\eg n q x i c)(ae:kQ n q K S):kQ n q K d:=by
 rcases h with⟨r,l,k,o,rfl⟩|⟨rfl,_⟩
 . refine⟨λj a=>?_,ae.gd,ae.rd,λj a=>?_⟩
   . show _/\0<=(cb S.R i b j).cl/\∃r,r<=K/\eg n q r j (cb S.R i b j).cl.toNat;have a:(cb S.R i b j).cl≠-1:=a;by_cases e:j=i
     . subst e;rw[fq,f];exact⟨g,J,m r l k⟩
     . rw[hy _ _ e] at a⊢;exact ae.run j a
   . show _/\(cb S.R i b j).cl≠-1;by_cases e:j=i
     . subst e;rw[fq,f];exact⟨g,J⟩
     . rw[hy _ _ e];rcases dv.1 a with a|a
       . exact ae.aX j a
       . exact aJ (dV.1 a) e
 . exact ae
def t4{n:ak}{i k:Nat}:k∈kB n i↔∃x,n.bj[k]? =I x/\x.src=(i:Int):=by
 simp only[kB,jf,hh];constructor
 . rintro⟨a,b⟩;rw[cG a] at b;exact⟨_,cG a,of_decide_eq_true b⟩
 . rintro⟨x,a,b⟩;refine⟨(az.1 a).1,?_⟩;rw[a];exact be b
def JZ(n:ak)(i:Nat):(kB n i).length<=n.bj.length:=by have:=lZ (λk=>match n.bj[k]? with|some x=>decide (x.src=(i:Int))|none=>ad) (b8 n.bj.length);rw[List.length_range] at this;exact this
theorem l9.n4{g:Nat}{M:Mem}{x:V}{l:List Nat}(h:l9 g M x l):(x.gU=U/\eY x M=I (aa l.length))/\∀(j k:Nat),l[j]? =I k->∃e,d8 1 x (aa j) M=I e/\dZ 1 ad e M=I (aa k):=by
 rcases h with⟨rfl,rfl⟩|⟨a,ver,f,rfl,b⟩
 . exact⟨⟨rfl,rfl⟩,λj k h=>by simp at h⟩
 . refine⟨⟨rfl,jZ b⟩,λj k c=>?_⟩;have d:=(az.1 c).1;refine⟨_,e2 b d (by simp),?_⟩;simp only[dZ,b,beq_self_eq_true,bi,dK,c,jE];rfl
def l9.bh{g f:Nat}{M c:Mem}(bh:fV g f M c){i:List V}(k:M[f]? =I (.box i)){x:V}{l:List Nat}(h:l9 g M x l):l9 g c x l:=by
 rcases h with h|⟨a,ver,d,j,b⟩
 . exact .inl h
 . exact .inr ⟨a,ver,d,j,bh _ _ b (λe=>by rw[e,k] at b;cases b) (λ_ _ _ e=>by cases e) (.inl d)⟩
def rN(n:ak)(L R:Nat->Int)(m:Nat)(e:aZ)(x:b1):Prop:=x.fg=m->∀(S:aV)(c:aZ),n.ar[x.dst.toNat]? =I S->S.aO[x.ea.toNat]? =I c->e.aQ<=c.aR->
 (x.aT=U->S.ds=ad->cD (R x.dst.toNat) x.ea)/\(x.aT=ad->e.ct=U->c.cM=U->cD (L x.dst.toNat) x.ea)
def rN.le{n:ak}{L R k l:Nat->Int}{m:Nat}{e:aZ}{x:b1}(h:rN n L R m e x)(p:∀i,gi (k i) (L i))(q:∀i,gi (l i) (R i)):rN n k l m e x:=λa S c b d f=>⟨λg j=>(q _).fy ((h a S c b d f).1 g j),λg j o=>(p _).fy ((h a S c b d f).2 g j o)⟩
def aaV{n:ak}(F:jH n){q:aG}{K g f:Nat}{S:fv}{M:Mem}(H:iM n g f S M){i m:Nat}{r:aV}{e:aZ}(aw:de n i m r e)(l:Int){y a:Nat}(b2:y<=K)(bv:eg n q y i a)(bo:a<m)(ae:kQ n q K S)(cn:2*jS n.ar.length (λi=>(S.R i).cl)+S.O.length<=1000):
 bx aH 163 [.ptr f 0,aa i,aa m,aa l,.bool e.ct] M (λv a9=>v=.tuple []/\fV g f M a9/\∃b,iM n g f b a9/\b.P=S.P/\b.k=S.k/\hD n S b/\kQ n q K b/\Cs n (λi=>(b.L i).cl) (λi=>(b.R i).cl) i m e):=by
 obtain⟨cd,cw,cc,cv,ce,cx,cs,cA,a7⟩:=id H;obtain⟨co,aD,ba⟩:=a7.pl.c4;obtain⟨cr,ver,cf,cq,rfl,b7,b8,b9⟩:=a7.out;have bs:i<n.ar.length:=(az.1 aw.cy).1;obtain⟨x,b_,bF⟩:=b9 i bs;obtain⟨⟨cz,ca⟩,_⟩:=bF.n4;have b0:=aw.cy;have bW:=aw.cV;have bY:decide (i<n.ar.length)=U:=be bs;have b6:=aD;have cm:=JZ n i;have ck:=F.xD;refine dX Hu ?_;simp only[eo] at aD;simp only[dN];refine od @b5 aD b0 bW @aV.row.eq_1 @aZ.row.eq_1 b7 b8 b_ bY ca ?_;refine c6 (kB n i) (λj a6 N=>∃b,a6=[.ptr f 0,aa m,aa l,.bool e.ct,aa e.aQ,x,aa (kB n i).length,aa j]/\fV g f M N/\iM n g f b N/\b.P=S.P/\b.k=S.k/\hD n S b/\kQ n q K b/\
  ∀(t k:Nat)(z:b1),t<j->(kB n i)[t]? =I k->n.bj[k]? =I z->rN n (λi=>(b.L i).cl) (λi=>(b.R i).cl) m e z)
  ⟨S,rfl,.refl _ _ _,H,rfl,rfl,.refl _ _,ae,λ_ _ _ h=>aJ h (c9 _)⟩ ?_ ?_;rotate_left
 . rintro a6 N ⟨b,rfl,bh,bT,am,V,af,W,aP⟩;refine aL @bV ?_;refine⟨bh,b,bT,am,V,af,W,λz aA C s=>?_⟩;obtain⟨k,V⟩:=eb aA;obtain⟨j,Q⟩:=eb (t4.2 ⟨z,V,C⟩);exact aP j k z (az.1 Q).1 Q V s
 rintro j k a6 N aY Q bX ⟨b,rfl,bh,⟨bb,bC,a_,bB,bc,bD,bA,bH,av⟩,am,V,af,W,aP⟩;obtain⟨z,aA,a4⟩:=t4.1 (bI aY);have aI:=bI aA;obtain⟨⟨b3,b4⟩,bz⟩:=F.bj z aI;obtain⟨_,T,c,D,ab⟩:=F.iY z aI;obtain⟨bL,bK,jU,bJ,bM⟩:=z;obtain⟨d,rfl⟩:∃d:Nat,jU=d:=⟨jU.toNat,by simp only at b3;omega⟩;obtain⟨o,rfl⟩:∃d:Nat,bJ=d:=⟨bJ.toNat,by simp only at b4;omega⟩;simp only at a4 bz D ab;rw[dU] at D ab;obtain⟨cp,a5,cu⟩:=av.pl.c4;obtain⟨E,bR,bS⟩:=(l9.bh bh b6 bF).n4.2 j k aY;have aq:=λL=>cE N L;have bO:∀(B X:au)(L:Mem),(N++B::L).set N.length X=N++X::L:=λB X L=>hZ N B X L;have bP:∀(a B X:au)(L:Mem),(N++a::B::L).set (N.length+1) X=N++a::X::L:=λa B X L=>by simp
 have aM:∀L:Mem,(N++L)[N.length+1]? =L[1]? :=λL=>by rw[fH J,show N.length+1 -N.length=1 by omega]
 have aK:=λL=>a0 a5 L;simp only[eo] at a5 aK;simp-implicitDefEqProofs (disch:=omega) only[go_sem,b5,bX,a5,aK,bR,bS,aA,b1.row,aq,bO,D,ab,aV.row,aZ.row,cS,fG,eH,bP,aM];have ax:∀p:fv,hD n b p->rN n (λi=>(p.L i).cl) (λi=>(p.R i).cl) m e ⟨bL,bK,d,o,bM⟩->∀(t an:Nat)(z:b1),t<j+1->(kB n i)[t]? =I an->n.bj[an]? =I z->rN n (λi=>(p.L i).cl) (λi=>(p.R i).cl) m e z:=λp s ai t an z aj Z al=>by
  rcases eT t j with h|h
  . exact(aP t an z h Z al).le s.gd s.run
  . obtain rfl:t=j:=J;rw[aY] at Z;cases Z;rw[aA] at al;cases al;exact ai
 have aB:iM n g f b N:=⟨bb,bC,a_,bB,bc,bD,bA,bH,av⟩;have br:∀(A:aV)(Y:aZ),n.ar[d]? =I A->A.aO[o]? =I Y->Y=c:=λA Y C s=>by rw[D] at C;cases C;rw[ab] at s;cases s;rfl
 have ay:d<n.ar.length:=(az.1 D).1;have cj:=(az.1 ab).1;have ci:=(F.len T (bI D)).2;apply cF<;>intro aN
 . refine ah ?_;exact bE Q ⟨b,rfl,bh.trans (.a1 _ _ _ _),aB.a1 _,am,V,af,W,ax _ (.refl _ _) λh=>aJ h aN⟩
 refine aL aM ?_;apply aW<;>intro cg
 . refine ah ?_;refine bE Q ⟨b,rfl,bh.trans (.a1 _ _ _ _),aB.a1 _,am,V,af,W,ax _ (.refl _ _) λh A Y C s ai=>?_⟩;rw[br A Y C s] at ai;exact aJ ai J
 refine aL aq ?_;apply dt<;>intro ao
 . refine aL aq ?_;refine ch (Bh (aB.a1 _) ay ⟨o,l,U⟩ (by have:=af.w;omega)) ?_;rintro v a8 ⟨rfl,bQ,p,bU,aS⟩;obtain⟨ap,bN⟩:=aS.qg (c:=o) ay rfl J;refine ah ?_;have bl:p.P=b.P/\p.k=b.k:=by
    rcases aS with⟨_,_,_,_,rfl⟩|⟨rfl,_⟩<;>exact⟨rfl,rfl⟩
   refine bE Q ⟨p,rfl,bh.trans ((fV.a1 _ _ _ _).trans bQ),bU,bl.1.trans am,bl.2.trans V,af.trans ap,aS.snd (c:=o) ay rfl (λA bn aU=>?_) W,ax _ ap λh A Y C s ai=>⟨λ_ Z=>bN A C Z,λaj=>?_⟩⟩
   . rw[D] at bn;cases bn;obtain rfl:o=0:=by have:=bz ao;omega
     exact⟨y,b2,.aT bv bo aw ⟨D,aU,ab⟩ aI ao a4 aN rfl J⟩
   . rw[ao] at aj;cases aj
 refine ah ?_;have a2:∀(G:Mem),(¬(e.ct=U/\c.cM=U)∨¬((b.L d).cl=-1∨(o:Int)<(b.L d).cl))->∃p,fV g f M (N++G)/\iM n g f p (N++G)/\p.P=S.P/\p.k=S.k/\hD n S p/\kQ n q K p/\
  ∀(t an:Nat)(z:b1),t<j+1->(kB n i)[t]? =I an->n.bj[an]? =I z->rN n (λi=>(p.L i).cl) (λi=>(p.R i).cl) m e z:=λG aE=>
  ⟨b,bh.trans (.a1 _ _ _ _),aB.a1 _,am,V,af,W,ax _ (.refl _ _) λh A Y C s ai=>⟨λaj=>kI (ao.symm.trans aj),λ_ Z al=>by
    rw[br A Y C s] at al;rcases aE with aE|aE
    . exact aJ ⟨Z,al⟩ aE
    . show(b.L d).cl≠-1/\(b.L d).cl<=o;exact⟨J,J⟩⟩⟩;apply cU<;>intro bd
 . refine ah ?_;obtain⟨p,h⟩:=a2 [_,_] (.inl λh=>by rw[bd] at h;cases h.1);exact bE Q ⟨p,rfl,h⟩
 refine aL aM ?_;apply cU<;>intro bf
 . refine ah ?_;obtain⟨p,h⟩:=a2 [_,_] (.inl λh=>by rw[bf] at h;cases h.2);exact bE Q ⟨p,rfl,h⟩
 have aC:=av.gd;have bq:(dR n.ar.length b.L)[d]? =I (d1 (b.L d)):=g8 _ ay;have bt:=λL:Mem=>e2 (n:=n.ar.length) (i:=d) (a0 aC L) ay (by rw[dR,ep];exact bk _);have bu:=λL:Mem=>lI (a0 aC L) bq rfl;have a3:=λL:Mem=>Lr (r:=d1 ⟨o,l,ad⟩) (a0 aC L) bq rfl rfl rfl rfl;have bp:=Bi (b.L d) o;simp only[d1] at bu a3 bp;simp only[go_sem] at a3;refine es @b5 aK aq bt bu ?_;refine bG bp (ah ?_);apply cF<;>intro bg
 . refine ah ?_;obtain⟨p,h⟩:=a2 [_,_] (.inr bg);exact bE Q ⟨p,rfl,h⟩
 refine es @b5 aK aq bt a3 ?_;have bi:=(av.a1 [.box [aa bL,aa bK,aa d,aa o,.bool bM],.box [aa c.stop,aa c.aQ,aa c.aR,.bool c.cM,.bool c.ct]]).hd (cb b.L d ⟨o,l,ad⟩);rw[<-BV] at bi;have bZ:∀i,gi (cb b.L d ⟨o,l,ad⟩ i).cl (b.L i).cl:=λi=>by have:=Ax (R:=λi=>(b.L i).cl) (i:=d) (by omega:(0:Int)<=o) bg i;rw[show(o:Int)=(⟨o,l,ad⟩:fK).cl from rfl,<-v3] at this;exact this
 have ap:hD n b {b with L:=cb b.L d ⟨o,l,ad⟩}:=⟨λ_=>⟨rfl,rfl,rfl,rfl⟩,λ_=>.refl _,bZ,λ_=>.refl _,λ_ h=>h,λ_=>.inl rfl,bk _⟩;refine bE Q ⟨{b with L:=cb b.L d ⟨o,l,ad⟩},rfl,bh.trans ((fV.a1 _ _ _ _).trans (.set av.ge.2.2.1 (a0 aC _) _)),⟨bb,bC,a_,bB,bc,bD,bA,bH,bi⟩,am,V,af.trans ap,⟨W.run,λu aF=>?_,W.rd,W.aX⟩,ax _ ap λh A Y C s ai=>⟨λaj=>kI (ao.symm.trans aj),λ_ Z al=>?_⟩⟩
 . show yv n q (K+1) u (cb b.L d ⟨o,l,ad⟩ u).cl;have aF:(cb b.L d ⟨o,l,ad⟩ u).cl≠-1:=aF;by_cases bw:u=d
   . subst bw;rw[fq];refine⟨by show(0:Int)<=o;omega,⟨T,c,D,by rw[show(⟨o,l,ad⟩:fK).cl.toNat=o from dU o];exact ab⟩,λR bm aU=>?_⟩;rw[D] at bm;cases bm;rw[show(⟨o,l,ad⟩:fK).cl.toNat=o from dU o];exact⟨y+1,J,.qV bv bo aw bd ⟨D,aU,ab⟩ bf aI ao a4 aN rfl rfl J⟩
   . rw[hy _ _ bw] at aF⊢;exact W.gd u aF
 . show cD (cb b.L d ⟨o,l,ad⟩ (Int.toNat d)).cl o;rw[dU,fq];exact⟨by show(o:Int)≠-1;omega,fS _⟩
def jh.acq{n:ak}{g f b c k o l p:Nat}{m q:V}{S:fv}{M:Mem}(h:jh n g f b c k o l p m q S M)(P:Nat->co)(i:Nat->Int):jh n g f b c k o l p m q {S with P:=P,rl:=i} (M.set b (.aj 6 (dE n.aB.length P i) c 0)):=by
 have d:∀(j:Nat) B,M[j]? =I B->(∀R v z,B≠.aj 6 R v z)->(M.set b (.aj 6 (dE n.aB.length P i) c 0))[j]? =I B:=λj B a r=>by rw[bo λe=>by subst e;rw[h.pl.ky] at a;cases a;exact r _ _ _ rfl];exact a
 exact⟨h.pl.vU,d _ _ h.gd (λ_ _ _ e=>by cases e),d _ _ h.run (λ_ _ _ e=>by cases e),h.ge,h.aX.cj λj R ver _ a=>d _ _ a (λ_ _ _ e=>by cases e),h.out.cj λj B s _ _ a=>by rw[bo (by have:=h.ge;omega)];exact a⟩
def iM.add{n:ak}{g f:Nat}{S:fv}{M:Mem}(H:iM n g f S M)(q:S.k<=100000000000)(x:a7)(p:Int):
 bx aH 110 [.ptr f 0,.agg x.row,aa p] M (λv b=>v=aa S.k/\fV g f M b/\iM n g f {S with k:=S.k+1} b):=by
 obtain⟨i,u,d,t,l,w,s,y,h⟩:=H;refine bx.mono (h.pl.add q x p) λv b ⟨e,bh,r⟩=>⟨e,.AZ bh,i,u,d,t,l,w,s,y,r,?_,?_,h.ge,h.aX.cj λj R ver _ a=>?_,h.out.cj λj B _ m o a=>?_⟩
 . exact bh _ _ h.gd (λe=>by obtain⟨c,aD,_⟩:=h.pl.c4;have:=h.gd;rw[e,aD] at this;cases this) (λ_ _ _ e=>by cases e)
 . exact bh _ _ h.run (λe=>by obtain⟨c,aD,_⟩:=h.pl.c4;have:=h.run;rw[e,aD] at this;cases this) (λ_ _ _ e=>by cases e)
 . exact bh _ _ a (λe=>by obtain⟨c,aD,_⟩:=h.pl.c4;rw[e,aD] at a;cases a) (λ_ _ _ e=>by cases e)
 . exact bh _ _ a (λe=>by obtain⟨c,aD,_⟩:=h.pl.c4;rw[e,aD] at a;cases a;exact m _ rfl) o
def gw(p:co)(t:Int):co:=⟨p.aj,t,p.cn,p.fa,p.dl⟩
def Bu{P:Program}{l:Nat}{b:List Nat}{a cJ:bu}{Q:Exit->av->Mem->Prop}{s:av}{M:Mem}(h:ck P a (qS (λ_ _=>∃_:Nat,False) l b Q) s M):ck P (.scope l b a cJ) Q s M:=
 ⟨λ_ _ _=>False,h,λ_ _ _ h=>h.elim⟩
def abN{n:ak}{q:aG}{K:Nat}{S:fv}{s:Nat}{t:Int}(b:Nat->Int)(d:0<=t)(h:(S.P s).rd=-1∨t<(S.P s).rd):hD n S {S with P:=cb S.P s (gw (S.P s) t),rl:=b}/\cD (cb S.P s (gw (S.P s) t) s).rd t/\
 (kQ n q K S->ox n q K s t->kQ n q K {S with P:=cb S.P s (gw (S.P s) t),rl:=b}):=by
 refine⟨⟨λj=>?_,λj=>?_,λ_=>.refl _,λ_=>.refl _,λ_ h=>h,λ_=>.inl rfl,bk _⟩,?_,λae c=>⟨ae.run,ae.gd,λj a=>?_,ae.aX⟩⟩
 . show(cb S.P s (gw (S.P s) t) j).aj=_/\(cb S.P s (gw (S.P s) t) j).cn=_/\(cb S.P s (gw (S.P s) t) j).fa=_/\(cb S.P s (gw (S.P s) t) j).dl=_;by_cases e:j=s
   . subst e;rw[fq];exact⟨rfl,rfl,rfl,rfl⟩
   . rw[hy _ _ e];exact⟨rfl,rfl,rfl,rfl⟩
 . show gi (cb S.P s (gw (S.P s) t) j).rd _;by_cases e:j=s
   . subst e;rw[fq];intro g;show t≠-1/\t<=_;omega
   . rw[hy _ _ e];exact .refl _
 . rw[fq];exact⟨by show t≠-1;omega,fS _⟩
 . have a:(cb S.P s (gw (S.P s) t) j).rd≠-1:=a;show ox n q K j (cb S.P s (gw (S.P s) t) j).rd;by_cases e:j=s
   . subst e;rw[fq];exact c
   . rw[hy _ _ e] at a⊢;exact ae.rd j a
def ql.le{n:ak}{P d:Nat->co}{L b R f:Nat->Int}{i m:Nat}(h:ql n P L R i m)(y:∀s,gi (d s).rd (P s).rd)(q:∀i,gi (b i) (L i))(z:∀i,gi (f i) (R i)):ql n d b f i m:=λr e t=>by obtain⟨p,j⟩:=h r e t;exact⟨λA=>(y _).fy (p A),λx k a g S c l bP o=>⟨λu v=>(z _).fy ((j x k a g S c l bP o).1 u v),λu v w=>(q _).fy ((j x k a g S c l bP o).2 u v w)⟩⟩
def de.same{n:ak}{i k:Nat}{r f:aV}{c a:aZ}(h:de n i k r c)(b:de n i k f a):f=r/\a=c:=by have d:=h.cy;rw[b.cy] at d;cases d;have e:=h.cV;rw[b.cV] at e;cases e;exact⟨rfl,rfl⟩
def aaZ{n:ak}(F:jH n){q:aG}{K g f:Nat}{S:fv}{M:Mem}(H:iM n g f S M){i:Nat}(aC:i<n.ar.length)(b1:(S.R i).cl≠-1)(ae:kQ n q K S)(cc:2*jS n.ar.length (λi=>(S.R i).cl)+S.O.length<=1000)(bB:S.k+6<=100000000000):
 bx aH 113 [.ptr f 0,aa i] M (λv bc=>v=.tuple []/\fV g f M bc/\∃j,iM n g f j bc/\j.k<=S.k+6/\hD n S j/\kQ n q K j/\ts n j.P (λi=>(j.L i).cl) (λi=>(j.R i).cl) i (S.R i).cl):=by
 obtain⟨cv,c5,cs,c0,cx,c7,cT,c9,aN⟩:=id H;obtain⟨cN,aD,ba⟩:=aN.pl.c4;obtain⟨_,cG,y,bF,aE⟩:=ae.run i b1;obtain⟨r,B,av⟩:=Mj aE;obtain⟨b,a5⟩:∃b:Nat,(S.R i).cl=b:=⟨(S.R i).cl.toNat,J⟩;rw[a5,dU] at av aE;have T:=av.cy;have bw:=av.cV;have cH:=(az.1 bw).1;have cK:=(F.len r (bI T)).2;have b4:(dR n.ar.length S.R)[i]? =I (d1 (S.R i)):=g8 _ aC;have b7:=e2 (n:=n.ar.length) (i:=i) aN.run aC (by rw[dR,ep];exact bk _);have bC:=lI aN.run b4 rfl;have bg:=λL=>cE M L;have bU:∀(B X:au)(L:Mem),(M++B::L).set M.length X=M++X::L:=λB X L=>hZ M B X L;have bV:∀(a B X:au)(L:Mem),(M++a::B::L).set (M.length+1) X=M++a::X::L:=λa B X L=>by simp
 have bi:∀L:Mem,(M++L)[M.length+1]? =L[1]? :=λL=>by rw[fH J,show M.length+1 -M.length=1 by omega]
 have bG:=aD;have bH:=λL=>a0 aD L;refine dX Hz ?_;simp only[eo] at aD bH;simp only[d1,a5] at bC;simp only[dN];refine ah ?_;refine Bu ?_;simp-implicitDefEqProofs (disch:=omega) only[go_sem,b5,aD,bH,b7,bC,T,bw,aV.row,aZ.row,bg,bU,bV,bi,cS,fG,eH];refine jz (λz bN N=>∃(t:Nat)(j:fv),z=r.aO.length -t/\b<t/\t<=r.aO.length/\bN=[.ptr f 0,aa i,.ptr M.length 0,.slice (r.aO.map aZ.row) r.tag,.ptr (M.length+1) 0,aa t]/\fV g f M N/\
  N[M.length]? =I (.box [aa b,aa (S.R i).prev,.bool (S.R i).aT])/\N[M.length+1]? =I (.box [aa B.stop,aa B.aQ,aa B.aR,.bool B.cM,.bool B.ct])/\iM n g f j N/\j.k<=S.k+t/\hD n S j/\kQ n q K j/\
  ∀m:Nat,b<m->m<t->ql n j.P (λi=>(j.L i).cl) (λi=>(j.R i).cl) i m) (r.aO.length -(b+1))
  ⟨b+1,S,rfl,J,J,rfl,.a1 _ _ _ _,by rw[bg];rfl,by rw[bi];rfl,H.a1 _,J,.refl _ _,ae,λm ao ap=>aJ ao J⟩ ?_;rintro z bN N ⟨t,j,rfl,ca,cL,rfl,bh,aK,bL,aY,cJ,D,W,bt⟩;refine ah ?_;apply cF<;>intro ao
 . refine ah ?_;refine⟨bh,j,aY,J,D,W,λm b9 aI aS A=>?_⟩;rw[a5] at b9;have:=(az.1 A.cV).1;have e:aI=r:=by have:=A.cy;rw[T] at this;cases this;rfl
   rw[e] at this;exact bt m J J aI aS A
 obtain⟨c,ax⟩:∃c,r.aO[t]? =I c:=⟨r.aO[t]'J,by simp⟩;have aw:de n i t r c:=⟨T,av.ds,ax⟩;have aP:=λL=>cE N L;have bT:∀(B X:au)(L:Mem),(N++B::L).set N.length X=N++X::L:=λB X L=>hZ N B X L;obtain⟨cw,c6,cu,c1,cz,c8,cW,c_,a3⟩:=id aY;obtain⟨cO,a9,cX⟩:=a3.pl.c4;have bJ:=λL=>a0 a9 L;have bO:=λL=>a0 aK L;have dD:=λL=>a0 bL L;simp only[eo] at a9 bJ;refine d0 ax aP bT @aZ.row.eq_1 ?_;have A:=D.w;have bz:=(F.stop r (bI T) c (bI ax));have b2:=(F.aM r (bI T) c (bI ax));obtain⟨cR,ver,cB,cQ,cd,ce,cf,cg⟩:=a3.out;obtain⟨x,cm,co⟩:=cg i aC;have b3:decide (i<n.ar.length)=U:=be aC;have cr:=λL=>a0 ce L;have bq:=aY.a1 [.box [aa c.stop,aa c.aQ,aa c.aR,.bool c.cM,.bool c.ct]];have ai:∀p:fv,hD n j p->ql n p.P (λi=>(p.L i).cl) (λi=>(p.R i).cl) i t->∀m:Nat,b<m->m<t+1->ql n p.P (λi=>(p.L i).cl) (λi=>(p.R i).cl) i m:=λp ap bZ m aq bp=>by
  rcases eT m t with h|h
  . exact(bt m aq h).le ap.rd ap.gd ap.run
  . obtain rfl:m=t:=J;exact bZ
 subst cd;apply cU<;>intro bW;have cp:=(l9.bh (fV.a1 g f N [.box [aa c.stop,aa c.aQ,aa c.aR,.bool c.cM,.bool c.ct]]) a9 co).n4.1.2;refine mI @b5 bJ cr cf cm b3 cp ?_;apply aW<;>intro cC
 . refine ah ?_;refine .inl ⟨r.aO.length -(t+1),J,t+1,j,rfl,J,J,rfl,bh.trans (.a1 _ _ _ _),bO _,dD _,bq,J,D,W,ai j (.refl _ _) λaI aS A=>?_⟩;rw[(aw.same A).2];refine⟨λh=>kI (bW.symm.trans h),λz aF ao=>?_⟩;obtain⟨k,bB⟩:=eb aF;have:=t4.2 ⟨z,bB,ao⟩;rw[lY.1 (by omega:(kB n i).length=0)] at this;cases this
 all_goals
  refine b6 bO dD aP ?_;have cI:=a3.pl.ne.2.1;refine ch (bq.add J ⟨U,i,b,t,B.stop,c.stop,B.aR,c.aQ,(S.R i).aT⟩ (S.R i).prev) ?_;rintro v bQ ⟨rfl,bj,b0⟩;have c2:bQ[N.length]? =I (.box [aa c.stop,aa c.aQ,aa c.aR,.bool c.cM,.bool c.ct]):=bj _ _ (by rw[aP];rfl) J (λ_ _ _ e=>by cases e) (.inr ⟨_,rfl⟩);refine aL c2 ?_;refine ch (aaV F (q:=q) (K:=K) b0 aw j.k bF aE J ⟨W.run,W.gd,W.rd,W.aX⟩ (fJ D.w cc)) ?_;rintro v ab ⟨rfl,bl,d,a2,bs,b8,al,a8,bD⟩;have c3:=bl _ _ c2 J (λ_ _ _ e=>by cases e) (.inr ⟨_,rfl⟩);have Q:fV g f N ab:=(fV.a1 _ _ _ _).trans (bj.trans bl);have Y:=Q _ _ aK (λe=>by have:=(az.1 aK).1;have:=(az.1 bG).1;omega) (λ_ _ _ e=>by cases e) (.inr ⟨_,rfl⟩);have Z:=Q _ _ bL (λe=>by have:=(az.1 aK).1;have:=(az.1 bG).1;omega) (λ_ _ _ e=>by cases e) (.inr ⟨_,rfl⟩);obtain⟨G,bM,bR,cj,bS,ck,ci,cq,af⟩:=id a2;obtain⟨cP,a_,cZ⟩:=af.pl.c4;have a7:c.stop.toNat<n.aB.length:=J;have aA:(dE n.aB.length d.P d.rl)[c.stop.toNat]? =I [aa (d.P c.stop.toNat).aj,aa (d.P c.stop.toNat).rd,aa (d.P c.stop.toNat).cn,aa (d.P c.stop.toNat).fa,aa (d.rl c.stop.toNat),aa (d.P c.stop.toNat).dl]:=g8 _ a7;have C:=af.pl.ky;have bA:=e2 (n:=n.aB.length) C a7 (by rw[dE,ep];exact bk _);rw[fr bz.1] at bA;have am:∀B:au,(ab.set G B)[G]? =I B:=λB=>bY af.pl.ne.2.2;have bP:∀x:List V,((dE n.aB.length d.P d.rl).set c.stop.toNat x)[c.stop.toNat]? =I x:=λx=>bY (by rw[dE,ep];exact a7);have cY:=a_;have E:hD n j d:=⟨λs=>by rw[bs];exact⟨rfl,rfl,rfl,rfl⟩,λs=>by rw[bs];exact .refl _,al.gd,al.run,al.aX,al.new,al.w⟩;have a6:d.k<=S.k+(t+1):=by rw[b8];show j.k+1<=_;omega
  simp only[eo] at a_;refine d0 @b5 a_ c3 bA ?_;have b_:c.ct=U->ox n q K c.stop.toNat c.aQ:=λa4=>⟨y,i,b,t,r,c,bF,aE,ca,aw,a4,(fr bz.1).symm,rfl⟩;have ay:∀l:fv,hD n d l->(c.ct=U->cD (l.P c.stop.toNat).rd c.aQ)->ql n l.P (λi=>(l.L i).cl) (λi=>(l.R i).cl) i t:=λl aq bp aI aS A=>by rw[(aw.same A).2];exact⟨bp,λz aF bd bf S c am bP bK=>⟨λu v=>(aq.run _).fy ((bD z aF bd bf S c am bP bK).1 u v),λu v w=>(aq.gd _).fy ((bD z aF bd bf S c am bP bK).2 u v w)⟩⟩
  have bE:(d.P c.stop.toNat).rd=-1∨c.aQ<(d.P c.stop.toNat).rd->c.ct=U->∃l:fv,iM n g f l (ab.set G (.aj 6 ((dE n.aB.length d.P d.rl).set c.stop.toNat [aa (d.P c.stop.toNat).aj,aa c.aQ,aa (d.P c.stop.toNat).cn,aa (d.P c.stop.toNat).fa,aa j.k,aa (d.P c.stop.toNat).dl]) bM 0))/\
   l.k<=S.k+(t+1)/\hD n d l/\kQ n q K l/\(c.ct=U->cD (l.P c.stop.toNat).rd c.aQ):=λh a4=>by
   obtain⟨gz,an,o⟩:=abN (n:=n) (q:=q) (K:=K) (S:=d) (cb d.rl c.stop.toNat j.k) b2.1 h;have br:=af.acq (cb d.P c.stop.toNat (gw (d.P c.stop.toNat) c.aQ)) (cb d.rl c.stop.toNat j.k);rw[<-Lz] at br;exact⟨_,⟨G,bM,bR,cj,bS,ck,ci,cq,br⟩,a6,gz,o a8 (b_ a4),λ_=>an⟩
  have bm:∀B:au,fV g f ab (ab.set G B):=λB=>.set af.ge.2.1 C B;have bu:M.length≠G:=λe=>by rw[e,C] at Y;cases Y
  have bv:M.length+1≠G:=λe=>by rw[e,C] at Z;cases Z
  apply cU<;>intro aU
  . refine ah ?_;refine .inl ⟨r.aO.length -(t+1),J,t+1,d,rfl,J,J,rfl,bh.trans Q,Y,Z,a2,a6,D.trans E,a8,ai d E (ay d (.refl _ _) λh=>kI (aU.symm.trans h))⟩
  refine b6 @g7 C aA ?_;apply aW<;>intro bn
  . simp-implicitDefEqProofs (disch:=omega) only[go_sem,g7,c3,C,aA,am,bP,h3];obtain⟨l,gz,an,o,s2,bb⟩:=bE (.inl bn) aU;refine .inl ⟨r.aO.length -(t+1),J,t+1,l,rfl,J,J,rfl,bh.trans (Q.trans (bm _)),by rw[bo (cA bu)];exact Y,by rw[bo (cA bv)];exact Z,gz,an,(D.trans E).trans o,s2,ai l (E.trans o) (ay l o bb)⟩
  refine d0 @g7 c3 C aA ?_;apply aW<;>intro bX
  . simp-implicitDefEqProofs (disch:=omega) only[go_sem,g7,c3,C,aA,am,bP,h3];obtain⟨l,gz,an,o,s2,bb⟩:=bE (.inr bX) aU;refine .inl ⟨r.aO.length -(t+1),J,t+1,l,rfl,J,J,rfl,bh.trans (Q.trans (bm _)),by rw[bo (cA bu)];exact Y,by rw[bo (cA bv)];exact Z,gz,an,(D.trans E).trans o,s2,ai l (E.trans o) (ay l o bb)⟩
  . refine ah ?_;refine .inl ⟨r.aO.length -(t+1),J,t+1,d,rfl,J,J,rfl,bh.trans Q,Y,Z,a2,a6,D.trans E,a8,ai d E (ay d (.refl _ _) λ_=>⟨bn,J⟩)⟩
def gl:fK:=⟨-1,-1,ad⟩
def vR(n:Nat)(x:List V):d_ n x=f7 n λ_=>x:=v1 (by simp) λi a=>by simp[a]
def AQ{zero:List V}{sz bytes n:Nat}{M:Mem}(f:n<=1000)(e:bytes<=1000):jq zero sz bytes (aa (n:Int)) (aa (n:Int)) M=I (.an M.length 0 0 n,M++[.aj sz (f7 n λ_=>zero) 0 0]):=by
 have g:n*bytes<=1000*1000:=Nat.mul_le_mul f e;have a:decide (0<=(n:Int))=U:=bR;have b:decide ((n:Int)<=(n:Int))=U:=bR;have c:decide ((n:Int)*((bytes:Nat):Int)<=2^48)=U:=be (by
  have:(n:Int)*(bytes:Int)=((n*bytes:Nat):Int):=by simp
  rw[this];omega);have d:decide ((n:Int)<2^62)=U:=bR;simp only[jq,a,b,c,d,cR,bi,dU,vR]
def Kz{M:Mem}{n:Nat}(q:n<=1000){R:Option V->Mem->Prop}(a:R (I (.an M.length 0 0 n)) (M++[.aj 3 (dR n λ_=>gl) 0 0])):ck aH xe.body (iT xe.results R) (nq [aa n] 0) M:=by
 have p:=AQ (zero:=[v0,v0,.bool ad]) (sz:=3) (bytes:=24) (M:=M) q J;have d:=λL=>cE M L;have g:∀(B X:au)(L:Mem),(M++B::L).set M.length X=M++X::L:=λB X L=>hZ M B X L;have o:∀R:List (List V),eY (.an M.length 0 0 n) (M++[.aj 3 R 0 0])=I (aa n):=λR=>jZ (by rw[d];rfl);refine bN p o ?_;refine d4 n (λi c N=>c=[.an M.length 0 0 n,aa n,aa i]/\N=M++[.aj 3 (f7 n λj=>if j<i then d1 gl else[v0,v0,.bool ad]) 0 0]) ⟨rfl,?_⟩ ?_ ?_
 . rfl
 rotate_left
 . rintro c N ⟨rfl,rfl⟩;refine aL @bV ?_;rw[uq λi b=>aF b];exact a
 rintro i c N b k ⟨rfl,rfl⟩;obtain⟨R,a⟩:∃R,R=f7 n λj=>if j<i then d1 gl else[v0,v0,.bool ad]:=⟨_,rfl⟩
 have f:(M++[au.aj 3 R 0 0])[M.length]? =I (.aj 3 R 0 0):=by rw[d];rfl
 have l:R[i]? =I [v0,v0,.bool ad]:=by rw[a,g8 _ b,ax (Nat.lt_irrefl _)]
 have m:=e2 (n:=n) (i:=i) f b (by rw[a,ep];exact bk _);have r:R.set i [aa (-1),aa (-1),.bool ad]=f7 n λj=>if j<i+1 then d1 gl else[v0,v0,.bool ad]:=by
  rw[a,v2];refine uq λj _=>?_;by_cases h:j=i
  . subst h;rw[fq,aF (Nat.lt_succ_self _)];rfl
  . rw[hy _ _ h];by_cases e:j<i
    . rw[aF e,aF J]
    . rw[ax e,ax J]
 rw[<-a];refine he k m f l g r ?_;exact bE b ⟨rfl,rfl⟩
def KA{M:Mem}{n:Nat}(a:n<=1000):bx aH 58 [aa n] M (λv N=>v=.an M.length 0 0 n/\N=M++[.aj 3 (dR n λ_=>gl) 0 0]):=
 dX z_ (Kz a ⟨rfl,rfl⟩)
def aaY{n:Nat}(b:n<=1000):bq aH 58 [aa n] (λv=>v=.slice (dR n λ_=>gl) .bF):=by
 refine bB z_ (Kz b ?_);have e:cY ([]++[.aj 3 (dR n λ_=>gl) 0 0]) ([]:Mem).length 20 (.an ([]:Mem).length 0 0 n)=I (.slice (dR n λ_=>gl) .bF):=by
  have d:decide (0+n<=(dR n λ_=>gl).length)=U:=be (by rw[dR,ep];omega);have a:(dR n λ_=>gl).length<=n:=by rw[dR,ep];exact bk _
  simp only[cY,eu,Nat.lt_irrefl,decide_false,eE,eH,hg,beq_self_eq_true,d,cR,bi,hN,eS a]
 show hC (cY ([]++[.aj 3 (dR n λ_=>gl) 0 0]) ([]:Mem).length 20 (.an ([]:Mem).length 0 0 n)) _;rw[e];exact⟨rfl,rfl,rfl,rfl⟩
theorem J4:∀(S R:List (List V))(k:Nat),k+S.length<=R.length->(iI R k S)=R.take k++S++R.drop (k+S.length)
 |[],R,k,_=>by show R=_;simp
 |y::S,R,k,h=>by
  have a:k<R.length:=by simp only[cc] at h;omega
  show iI (R.set k y) (k+1) S=_;rw[J4 S (R.set k y) (k+1) (by rw[cW];simp only[cc] at h;omega)];rw[List.take_set,gM,cG a,List.drop_set_of_lt J];rw[List.set_append_right _ _ (by rw[fh];omega)];simp only[fh,Nat.min_eq_left (Nat.le_of_lt a),hA,Option.toList_some,List.set_cons_zero,cc,cS,fG,eH];rw[show k+1+S.length=k+(S.length+1) by omega]
def Eg{M:Mem}{a b f g z d n:Nat}{R S:List (List V)}(k:M[a]? =I (.aj d R f 0))(l:M[b]? =I (.aj d S g z))(m:R.length=n)(j:S.length=n):∃c,kr d (.an a f 0 n) (.an b g 0 n) M=I (c,M.set a (.aj d S f 0)):=by
 subst j;have h:decide (0+S.length<=S.length)=U:=bR;have i:decide (0+S.length<=R.length)=U:=bR;have e:iI R 0 S=S:=by rw[J4 S R 0 J,List.take_zero,eH,List.drop_of_length_le J,ez]
 simp only[kr,dg,k,l,beq_self_eq_true,h,i,cR,bi,c_,decide_true,hN,eS (bk _),e];exact⟨_,rfl⟩
def mP(n:ak)(M:Mem)(v:V)(R:Nat->fK):Prop:=(∃c,v=.slice (dR n.ar.length R) c)∨∃b ver,v=.an b ver 0 n.ar.length/\M[b]? =I (.aj 3 (dR n.ar.length R) ver 0)
def mP.cj{n:ak}{M a:Mem}{v:V}{R:Nat->fK}(h:mP n M v R)(e:∀(j:Nat) X ver,M[j]? =I (au.aj 3 X ver 0)->a[j]? =I (au.aj 3 X ver 0)):mP n a v R:=by
 rcases h with h|⟨b,ver,c,d⟩
 . exact .inl h
 . exact .inr ⟨b,ver,c,e _ _ _ d⟩
def mP.a1{n:ak}{M:Mem}{v:V}{R:Nat->fK}(h:mP n M v R)(L:Mem):mP n (M++L) v R:=h.cj λ_ _ _ h=>a0 h L
def mP.len{n:ak}{M:Mem}{v:V}{R:Nat->fK}(h:mP n M v R):eY v M=I (.int .i64 n.ar.length):=by
 rcases h with⟨c,rfl⟩|⟨b,ver,rfl,a⟩
 . show I (V.int .i64 ((dR n.ar.length R).length:Int))=_;rw[dR,ep]
 . exact jZ a
def tu(v:V)(i:Nat):V:=match v with|.slice R _=>.eD (R[i]?.getD [])|.an b ver _ _=>.df b ver i 0|_=>.undef
theorem mP.n4{n:ak}{M:Mem}{v:V}{R:Nat->fK}(h:mP n M v R){i:Nat}(f:i<n.ar.length):∃E,iF 0 (tu v i)=I E/\∀G:Mem,d8 3 v (.int .i64 (i:Int)) (M++G)=I (tu v i)/\dZ 1 ad E (M++G)=I (.int .i64 (R i).cl)/\dZ 3 U (tu v i) (M++G)=I (.agg [.int .i64 (R i).cl,.int .i64 (R i).prev,.bool (R i).aT]):=by
 have a:(dR n.ar.length R)[i]? =I [.int .i64 (R i).cl,.int .i64 (R i).prev,.bool (R i).aT]:=g8 _ f;rcases h with⟨c,rfl⟩|⟨b,ver,rfl,g⟩
 . have d:decide (0<=(i:Int))=U:=bR;refine⟨.eD [.int .i64 (R i).cl,.int .i64 (R i).prev,.bool (R i).aT],?_,λG=>⟨?_,rfl,?_⟩⟩
   . simp only[tu,a];rfl
   . simp only[d8,d,bi,dU,a,tu];rfl
   . simp only[tu,a];rfl
 . have e:=λG:Mem=>a0 g G;refine⟨.df b ver i 0,rfl,λG=>⟨e2 (e G) f (by rw[dR,ep];exact bk _),?_,lI (e G) a rfl⟩⟩;simp only[dZ,e,beq_self_eq_true,bi,a];rfl
structure ow(n:ak)(q:aG)(K f k:Nat)(ek v0:Nat)(P:Nat->co)(M:Mem):Prop where
 mem:∃lv aex xp rv ub xv rl L,M[f]? =I (eo n lv (.an ek v0 0 n.aB.length) xp rv ub xv)/\j9 M lv k/\M[ek]? =I (.aj 6 (dE n.aB.length P rl) v0 aex)/\mP n M xp L/\ly n M.length M xv/\
  pm n q K P (λi=>(L i).cl)/\∀i,(L i).cl≠-1->yv n q (K+1) i (L i).cl
 snd:kP (l3 n q K) (mW n q K) P
 rd:∀s,(P s).rd≠-1->ox n q K s (P s).rd
def ly.mono{n:ak}{g c:Nat}{M:Mem}{v:V}(h:ly n g M v)(q:g<=c):ly n c M v:=by
 obtain⟨b,ver,d,o,e,f,j,k⟩:=h;refine⟨b,ver,d,J,e,f,j,λi l=>?_⟩;obtain⟨x,aD,ba⟩:=k i l;refine⟨x,aD,?_⟩;rcases ba with ba|⟨a,m,p,bA⟩
 . exact .inl ba
 . exact .inr ⟨a,m,J,bA⟩
structure ov(n:ak)(q:aG)(K k g f:Nat)(P:Nat->co)(NA N:Mem)(Po S:fv):Prop where
 bh:fV g f NA N
 eV:iM n g f S N
 qg:hD n Po S
 xi:S.P=P
 IJ:S.L=λ_=>gl
 hk:S.k=k
 snd:kQ n q K S
structure qs(n:ak)(P:Nat->co)(L:Nat->fK)(S:fv)(i t:Nat):Prop where
 gd:∀r,n.ar[i]? =I r->r.ds=ad->(L i).cl≠-1->cD (S.R i).cl (L i).cl
 wM:∀r b c,b<t->de n i b r c->c.cM=U->cD (P c.stop.toNat).cn c.aR->cD (S.R i).cl b
def qs.le{n:ak}{P:Nat->co}{L:Nat->fK}{S d:fv}{i t:Nat}(h:qs n P L S i t)(ae:hD n S d):qs n P L d i t:=⟨λr a b c=>(ae.run i).fy (h.gd r a b c),λr b c a x y z=>(ae.run i).fy (h.wM r b c a x y z)⟩
def ov.cM{n:ak}{q:aG}{K k g f:Nat}{P:Nat->co}{j N a8:Mem}{l S a:fv}(h:ov n q K k g f P j N l S){i c:Nat}{b:fK}(p:i<n.ar.length)(o:b.cl=(c:Int))(u:c<6)(d:s8 n i b S a)(bh:fV g f N a8)(t:iM n g f a a8)(v:∀r,n.ar[i]? =I r->r.ds=ad->∃x,x<=K/\eg n q x i c):
 ov n q K k g f P j a8 l a/\hD n S a/\∀r,n.ar[i]? =I r->r.ds=ad->cD (a.R i).cl c:=by
 obtain⟨m,s⟩:=d.qg p o u;have e:a.P=S.P/\a.L=S.L/\a.k=S.k:=by rcases d with⟨_,_,_,_,rfl⟩|⟨rfl,_⟩<;>exact⟨rfl,rfl,rfl⟩
 exact⟨⟨h.bh.trans bh,t,h.qg.trans m,e.1.trans h.xi,e.2.1.trans h.IJ,e.2.2.trans h.hk,d.snd p o v h.snd⟩,m,s⟩
def ov.a1{n:ak}{q:aG}{K k g f:Nat}{P:Nat->co}{a N:Mem}{b S:fv}(h:ov n q K k g f P a N b S)(G:Mem):ov n q K k g f P a (N++G) b S:=⟨h.bh.trans (.a1 _ _ _ _),h.eV.a1 G,h.qg,h.xi,h.IJ,h.hk,h.snd⟩
structure uJ(n:ak)(q:aG)(K k:Nat)(P:Nat->co)(yQ S:fv):Prop where
 aj:∀s,(S.P s).aj=(P s).aj/\(S.P s).cn=(P s).cn/\(S.P s).fa=(P s).fa/\(S.P s).dl=(P s).dl
 rd:∀s,gi (S.P s).rd (P s).rd
 run:∀i,gi (S.R i).cl (yQ.R i).cl
 k:S.k+6*(2*jS n.ar.length (λi=>(S.R i).cl)+S.O.length)<=k+588
 w:2*jS n.ar.length (λi=>(S.R i).cl)+S.O.length<=98
 snd:kQ n q K S
 xT:∀i,(S.R i).cl≠-1->i∈S.O∨ts n S.P (λi=>(S.L i).cl) (λi=>(S.R i).cl) i (S.R i).cl
def uJ.step{n:ak}{q:aG}{K k:Nat}{P:Nat->co}{b S a:fv}(h:uJ n q K k P b S){O:List Nat}{i:Nat}(c:S.O=O++[i])(ae:hD n {S with O:=O} a)(z:kQ n q K a)(A:ts n a.P (λi=>(a.L i).cl) (λi=>(a.R i).cl) i (S.R i).cl)(C:a.k<=S.k+6):
 uJ n q K k P b a/\2*jS n.ar.length (λi=>(a.R i).cl)+a.O.length<2*jS n.ar.length (λi=>(S.R i).cl)+S.O.length:=by
 have B:=ae.w;have F:2*jS n.ar.length (λi=>(a.R i).cl)+a.O.length<=2*jS n.ar.length (λi=>(S.R i).cl)+O.length:=B;have E:S.O.length=O.length+1:=by rw[c];simp
 have D:=h.k;have G:=h.w;refine⟨⟨λs=>?_,λs=>(ae.rd s).trans (h.rd s),λj=>(ae.run j).trans (h.run j),J,J,z,λj x=>?_⟩,J⟩
 . obtain⟨f,l,o,p⟩:=h.aj s;obtain⟨r,t,u,v⟩:=ae.aj s;exact⟨r.trans f,t.trans l,u.trans o,v.trans p⟩
 . rcases ae.new j with e|e
   . have e:(a.R j).cl=(S.R j).cl:=e;by_cases d:j=i
     . subst d;right;rw[e];exact A
     . rcases h.xT j (by rw[<-e];exact x) with g|g
       . rw[c] at g;rcases dv.1 g with g|g
         . exact .inl (ae.aX j g)
         . exact aJ (dV.1 g) d
       . right;rw[e];intro m y;exact(g m y).le ae.rd ae.gd ae.run
   . exact .inl e
def l8.len{g:Nat}{M:Mem}{v:V}{O:List Nat}(h:l8 g M v O):eY v M=I (.int .i64 O.length):=by
 rcases h with⟨rfl,rfl⟩|⟨o,ver,R,_,rfl,a,_⟩
 . rfl
 . exact jZ a
theorem l8.pop{g:Nat}{M:Mem}{v:V}{O:List Nat}{i:Nat}(h:l8 g M v (O++[i])):∃o ver,v=.an o ver 0 (O.length+1)/\d8 1 (.an o ver 0 (O.length+1)) (.int .i64 (O.length:Int)) M=I (.df o ver O.length 0)/\dZ 1 ad (.df o ver O.length 0) M=I (.int .i64 i)/\
 eQ 1 (.an o ver 0 (O.length+1)) ag (I (.int .i64 (O.length:Int))) ag M=I (.an o ver 0 O.length)/\l8 g M (.an o ver 0 O.length) O:=by
 rcases h with⟨_,h⟩|⟨o,ver,R,j,rfl,a,c,b⟩
 . simp at h
 . simp only[b0,hP] at c b⊢;have k:R[O.length]? =I [.int .i64 (i:Int)]:=by
    have:(R.take (O.length+1))[O.length]? =I [.int .i64 (i:Int)]:=by rw[b];simp
    rwa [fT (Nat.lt_succ_self _)] at this
   refine⟨o,ver,rfl,e2 a (Nat.lt_succ_self _) c,?_,?_,.inr ⟨o,ver,R,j,rfl,a,J,?_⟩⟩
   . simp only[dZ,a,beq_self_eq_true,bi,k];rfl
   . have d:decide (0<=(O.length:Int))=U:=bR;have e:decide (O.length+1<=R.length)=U:=bR;have f:decide (O.length<=O.length+1)=U:=bR;simp only[eQ,a,d,e,f,gE,beq_self_eq_true,c_,bk,decide_true,cR,bi,dU,dm,Nat.sub_zero]
   . have:=congrArg (List.take O.length) b;rw[List.take_take,Nat.min_eq_left J] at this;rw[this];simp
def jh.JT{n:ak}{g f d q c i l r:Nat}{p k:V}{S:fv}{M a:Mem}(h:jh n g f d q c i l r p k S M)(bh:iN f d M a):a[c]? =I (.aj 3 (dR n.ar.length S.L) i 0)/\ly n g a k:=by obtain⟨t,aD,_⟩:=h.pl.c4;refine⟨bh _ _ h.gd (λe=>by have:=h.gd;rw[e,aD] at this;cases this) (λe=>by have:=h.gd;rw[e,h.pl.ky] at this;cases this) (λ_ _ _ e=>by cases e),h.out.cj λj B s m o b=>bh _ _ b (λe=>by rw[e,aD] at b;cases b;exact m _ rfl) (by have:=h.ge;omega) o⟩
def aaX{n:ak}(F:jH n){q:aG}(ea:0<=q.src){K f k ap v0:Nat}{P:Nat->co}{M:Mem}(H:ow n q K f k ap v0 P M)(eR:k<=1000000):
 bx aH 61 [.ptr f 0,.an ap v0 0 n.aB.length] M (λv ci=>v=.tuple []/\kK f M ci/\∃aA aq a6 u,aA<=k+1000/\ow n q (K+1) f aA aq a6 u ci/\M.length<=aq):=by
 obtain⟨bn,eB,bm,ex,ew,bp,am,L,D,Q,av,aS,bW,cu,dx⟩:=H.mem;have eZ:=F.aB;have d_:=F.ar;have bL:=(az.1 D).1;have cH:=(az.1 av).1;have bd:f≠ap:=λe=>by rw[e,av] at D;cases D
 have d8:=AQ (zero:=[.int .i64 0,.int .i64 0,.int .i64 0,.int .i64 0,.int .i64 0,.int .i64 0]) (sz:=6) (bytes:=48) (M:=M) (n:=n.aB.length) J J;have d2:=jZ (n:=n.aB.length) av;have aP:∀(B:au)(G:Mem),(M++G).set f B=M.set f B++G:=λB G=>kh bL G B;have aw:∀(B:au)(G:Mem),(M.set f B++G)[f]? =I B:=λB G=>a0 (bY bL) G;have bs:∀(B bP:au)(G:Mem),(M.set f B++G).set f bP=M.set f bP++G:=λB bP G=>by rw[kh (by rw[cW];exact bL),h3]
 have bt:∀(B:au)(G:Mem),(M.set f B++G)[M.length]? =G[0]? :=λB G=>by have:=cE (M.set f B) G;rwa [cW] at this
 have bK:∀B:au,∃c,kr 6 (.an M.length 0 0 n.aB.length) (.an ap v0 0 n.aB.length) (M.set f B++[.aj 6 (f7 n.aB.length λ_=>[.int .i64 0,.int .i64 0,.int .i64 0,.int .i64 0,.int .i64 0,.int .i64 0]) 0 0])=I (c,M.set f B++[.aj 6 (dE n.aB.length P am) 0 0]):=λB=>by obtain⟨c,aD⟩:=Eg (M:=M.set f B++[.aj 6 (f7 n.aB.length λ_=>[.int .i64 0,.int .i64 0,.int .i64 0,.int .i64 0,.int .i64 0,.int .i64 0]) 0 0]) (a:=M.length) (b:=ap) (S:=dE n.aB.length P am) (by rw[bt];rfl) (a0 (by rw[bo bd];exact av) _) (ep _ _) (ep _ _);refine⟨c,aD.trans ?_⟩;have:=hZ (M.set f B) (.aj 6 (f7 n.aB.length λ_=>[.int .i64 0,.int .i64 0,.int .i64 0,.int .i64 0,.int .i64 0,.int .i64 0]) 0 0) (.aj 6 (dE n.aB.length P am) 0 0) [];rw[cW] at this;rw[this]
 obtain⟨c,bK⟩:=bK (eo n bn (.an M.length 0 0 n.aB.length) bm ex ew bp);have cR:∀(B:au)(G:Mem),eY bm (M.set f B++G)=I (.int .i64 n.ar.length):=λB G=>(aS.cj λj X ver x=>a0 (by rw[bo λe=>by rw[<-e,D] at x;cases x];exact x) G).len;refine dX Hx ?_;have cr:=a0 D;simp only[eo] at D cr bK;simp only[dN];simp-implicitDefEqProofs (disch:=omega) only[go_sem,b5,d2,d8,cr,aP,aw,bK,cR];refine ch (KA J) ?_;rintro v _ ⟨rfl,rfl⟩;have eh:∀(B X:au),(M.set f B++[X]).length=M.length+1:=λB X=>by simp
 have ei:∀(B X Y:au),(M.set f B++[X,Y]).length=M.length+2:=λB X Y=>by simp
 rw[eh];simp-implicitDefEqProofs (disch:=omega) only[go_sem,b5,aw,bs,cR,cS,fG,eH];refine ch (KA J) ?_;rintro v _ ⟨rfl,rfl⟩;rw[ei];simp-implicitDefEqProofs (disch:=omega) only[go_sem,b5,aw,bs,cS,fG,eH];obtain⟨ab,ax⟩:∃ab:fv,ab=⟨P,am,λ_=>gl,λ_=>gl,[],k⟩:=⟨_,rfl⟩;have bZ:iM n M.length f ab (M.set f (eo n bn (.an M.length 0 0 n.aB.length) (.an (M.length+1) 0 0 n.ar.length) (.an (M.length+2) 0 0 n.ar.length) (.slice [] .nil) bp)++[.aj 6 (dE n.aB.length P am) 0 0,.aj 3 (dR n.ar.length λ_=>gl) 0 0,.aj 3 (dR n.ar.length λ_=>gl) 0 0]):=by
  subst ax;have ck:∀(B:au)(G:Mem)(j:Nat),(M.set f B++G)[M.length+j]? =G[j]? :=λB G j=>by have:=fW (M.set f B) G j;rwa [cW] at this
  have cj:∀(B:au)(G:Mem)(j:Nat)(C:au),M[j]? =I C->j≠f->(M.set f B++G)[j]? =I C:=λB G j C x b7=>a0 (by rw[bo (cA b7)];exact x) G;refine⟨M.length,0,M.length+1,0,M.length+2,0,_,bp,⟨⟨⟨bn,aw _ _,Q.cj λj R ver x=>cj _ _ j _ x λe=>by rw[e,D] at x;cases x⟩,by rw[bt];rfl⟩,by rw[ck];rfl,by rw[ck];rfl,⟨bL,bk _,J,J,J⟩,.inl ⟨rfl,rfl⟩,bW.cj λj B _ bJ _ x=>cj _ _ j _ x λe=>by rw[e,D] at x;cases x;exact bJ _ rfl⟩⟩
 have be:kK f M (M.set f (eo n bn (.an M.length 0 0 n.aB.length) (.an (M.length+1) 0 0 n.ar.length) (.an (M.length+2) 0 0 n.ar.length) (.slice [] .nil) bp)++[.aj 6 (dE n.aB.length P am) 0 0,.aj 3 (dR n.ar.length λ_=>gl) 0 0,.aj 3 (dR n.ar.length λ_=>gl) 0 0]):=
  λj B x b7 _=>a0 (by rw[bo (cA b7)];exact x) _;simp only[eo] at bZ be;generalize M.set f (au.box [.slice (n.aB.map Stop.row) n.ij,.slice (n.ey.map ec.row) n.rc,.slice (n.ar.map aV.row) n.jx,.slice (n.bj.map b1.row) n.lc,.slice (n.bw.map bb.row) n.la,.slice (n.bQ.bU.map cv.row) n.bQ.tag,.int .i64 n.bQ.hG,.int .i64 n.bQ.e4,.int .i64 n.bQ.kf,bn,.an M.length 0 0 n.aB.length,.an (M.length+1) 0 0 n.ar.length,.an (M.length+2) 0 0 n.ar.length,.slice [] .nil,bp])++[.aj 6 (dE n.aB.length P am) 0 0,.aj 3 (dR n.ar.length λ_=>gl) 0 0,.aj 3 (dR n.ar.length λ_=>gl) 0 0]=aN at bZ be⊢;have e1:2*jS n.ar.length (λi=>(ab.R i).cl)+ab.O.length<=98:=by
  have:=KX d_ (λi=>(ab.R i).cl);have:ab.O=[]:=by rw[ax]
  rw[this];simp only[eu];omega
 have dv:ov n q (K+1) k M.length f P aN aN ab ab:=by
  refine⟨.refl _ _ _,bZ,.refl _ _,by rw[ax],by rw[ax],by rw[ax],⟨λi h=>?_,λi h=>?_,λs h=>?_,λi h=>?_⟩⟩
  . rw[ax] at h;exact aJ rfl h
  . rw[ax] at h;exact aJ rfl h
  . rw[ax] at h⊢;exact aa4 (H.rd s h)
  . rw[ax] at h;exact(gh h).elim
 have cC:aN[ap]? =I (.aj 6 (dE n.aB.length P am) v0 eB):=be _ _ av (cA bd) λ_ _ _ e=>by cases e
 refine c6 n.ar (λi aa N=>∃S,aa=[.ptr f 0,.an ap v0 0 n.aB.length,bm,.slice (n.ar.map aV.row) n.jx,.int .i64 n.ar.length,.int .i64 i]/\ov n q (K+1) k M.length f P aN N ab S/\
  ∀Z,Z<i->qs n P L S Z 6) ⟨ab,rfl,dv,λ_ h=>aJ h (c9 _)⟩ ?_ ?_
 . rintro i r aa N T ai b4 ⟨S,rfl,bB,cx⟩;have dq:mP n N bm L:=aS.cj λj X ver x=>bB.bh _ _ (be _ _ x (λe=>by rw[e,D] at x;cases x) λ_ _ _ e=>by cases e) (λe=>by rw[e,D] at x;cases x) (λ_ _ _ e=>by cases e) (.inl (az.1 x).1);obtain⟨E,d9,cb⟩:=dq.n4 ai;have cL:=λG=>(cb G).1;have dZ:=λG=>(cb G).2.1;have b9:=λG=>(cb G).2.2;have cp:=λG=>cE N G;have di:∀(B X:au)(G:Mem),(N++B::G).set N.length X=N++X::G:=λB X G=>hZ N B X G;refine oe b4 T @aV.row.eq_1 cp di cL d9 dZ ?_;have bA:=bB.a1 [.box r.row];have a7:(N++[au.box r.row])[N.length]? =I (.box r.row):=by rw[cp];rfl
   have dI:f<N.length:=by obtain⟨_,_,_,_,_,_,_,_,h⟩:=bB.eV;exact h.pl.ne.2.1
   simp only[aV.row] at bA a7;apply aW<;>intro a8;obtain⟨d,bC,cB,cT⟩:∃d,ov n q (K+1) k M.length f P aN (N++[.box r.row]) ab d/\(∀Z,Z<i->qs n P L d Z 6)/\∀r,n.ar[i]? =I r->r.ds=ad->(L i).cl≠-1->cD (d.R i).cl (L i).cl:=⟨S,bA,cx,λ_ _ _ h=>aJ a8 h⟩;simp only[aV.row] at bC;generalize N++[au.box [V.int .i64 r.oc,.int .i64 r.mh,.int .i64 r.nb,.str r.id,.int .i64 r.gJ,.bool r.bH,.bool r.ds,.slice (r.aO.map aZ.row) r.tag]]=bq at bC a7⊢;rotate_left;obtain⟨eC,⟨R,B,eD,eE⟩,eF⟩:=dx i a8;have cP:(L i).cl=(((L i).cl.toNat:Nat):Int):=(fr eC).symm;have eW:=(F.len R (bI eD)).2;have eX:=(az.1 eE).1;have e7:=bB.qg.w;have b2:=Bh bA.eV ai (L i) J;refine bN cL b9 ?_;refine ch b2 ?_;rintro v bq ⟨rfl,a3,d,b0,bX⟩;obtain⟨bC,eb,d5⟩:=bA.cM ai cP J bX a3 b0 eF;have a7:=a3 _ _ a7 J (λ_ _ _ e=>by cases e) (.inr ⟨_,rfl⟩);have cB:∀Z,Z<i->qs n P L d Z 6:=λZ h=>(cx Z h).le eb;have cT:∀r,n.ar[i]? =I r->r.ds=ad->(L i).cl≠-1->cD (d.R i).cl (L i).cl:=λr T aU _=>by rw[cP];exact d5 r T aU
   all_goals
    refine aL a7 ?_;have eQ:=(F.len r (bI T)).2;refine c6 r.aO (λt aa N=>∃S,aa=[.ptr f 0,.an ap v0 0 n.aB.length,bm,.int .i64 i,.slice (n.ar.map aV.row) n.jx,.int .i64 n.ar.length,.int .i64 i,.slice (r.aO.map aZ.row) r.tag,.int .i64 r.aO.length,.int .i64 t]/\
     ov n q (K+1) k M.length f P aN N ab S/\hD n d S/\qs n P L S i t) ⟨d,rfl,bC,.refl _ _,cT,λ_ _ _ h=>aJ h (c9 _)⟩ ?_ ?_;rotate_left
    . rintro aa W ⟨ao,rfl,a_,aE,ba⟩;refine aL @bV ?_;refine bE ai ⟨ao,rfl,a_,λZ h=>?_⟩;rcases eT Z i with Q|Q
      . exact(cB Z Q).le aE
      . obtain rfl:Z=i:=J;exact⟨ba.gd,λbO b c _ A=>ba.wM bO b c (by have:=(az.1 A.cV).1;have e:=A.cy;rw[T] at e;cases e;exact this) A⟩
    rintro t c aa W aD bi ed ⟨ao,rfl,a_,aE,ba⟩;have cJ:=F.stop r (bI T) c (bI aD);have c7:c.stop.toNat<n.aB.length:=J;have cs:=a_.bh _ _ cC (cA bd) (λ_ _ _ e=>by cases e) (.inl cH);have c2:=λG=>cE W G;have c3:∀(B X:au)(G:Mem),(W++B::G).set W.length X=W++X::G:=λB X G=>hZ W B X G;have bT:∀(a B X:au)(G:Mem),(W++a::B::G).set (W.length+1) X=W++a::X::G:=λa B X G=>by simp
    have bu:∀G:Mem,(W++G)[W.length+1]? =G[1]? :=λG=>by rw[fH J,show W.length+1 -W.length=1 by omega]
    have dK:(dE n.aB.length P am)[c.stop.toNat]? =I [.int .i64 (P c.stop.toNat).aj,.int .i64 (P c.stop.toNat).rd,.int .i64 (P c.stop.toNat).cn,.int .i64 (P c.stop.toNat).fa,.int .i64 (am c.stop.toNat),.int .i64 (P c.stop.toNat).dl]:=g8 _ c7;have dQ:=λG:Mem=>by have:=e2 (n:=n.aB.length) (a0 cs G) c7 (by rw[dE,ep];exact bk _);rwa [fr cJ.1] at this
    have bM:=λG:Mem=>a0 cs G;simp-implicitDefEqProofs (disch:=omega) only[go_sem,ed,aD,aZ.row,c2,c3,bT,bu,dQ,bM,dK,cS,fG,eH];have aI:=a_.a1 [.box c.row,.box (lb (P c.stop.toNat) (am c.stop.toNat))];simp only[aZ.row,lb] at aI;have bc:∀a2,hD n ao a2->(c.cM=U->r.ds=ad->cD (P c.stop.toNat).cn c.aR->cD (a2.R i).cl t)->qs n P L a2 i (t+1):=λa2 aS bW=>⟨(ba.le aS).gd,λbO b dh bJ A cI al=>by
     rcases eT b t with h|h
     . exact(ba.le aS).wM bO b dh h A cI al
     . obtain rfl:b=t:=J;have e:=A.cy;rw[T] at e;cases e;have e:=A.cV;rw[aD] at e;cases e;exact bW cI A.ds al⟩;apply cU<;>intro a9
    . refine ah ?_;exact bE bi ⟨ao,rfl,aI,aE,bc _ (.refl _ _) λh=>kI (a9.symm.trans h)⟩
    refine aL bu ?_;apply aW<;>intro bv
    . refine ah ?_;exact bE bi ⟨ao,rfl,aI,aE,bc _ (.refl _ _) λ_ _ h=>aJ bv h.1⟩
    refine bN c2 bu ?_;apply cF<;>intro bz
    . refine ah ?_;exact bE bi ⟨ao,rfl,aI,aE,bc _ (.refl _ _) λ_ _ h=>aJ h.2 bz⟩
    obtain⟨eK,fd,eJ,fc,eL,fe,e_,ff,af⟩:=aI.eV;obtain⟨e9,aK,dc⟩:=af.pl.c4;have dL:(dR n.ar.length ao.R)[i]? =I (d1 (ao.R i)):=g8 _ ai;have dT:=e2 (n:=n.ar.length) (i:=i) af.run ai (by rw[dR,ep];exact bk _);have d3:=lI af.run dL rfl;have dH:=Bi (ao.R i) t;have e6:=a_.qg.w;have b2:=Bh aI.eV ai ⟨t,(P c.stop.toNat).dl,ad⟩ J;simp only[eo] at aK;refine d0 @b5 aK dT d3 ?_;refine bG dH (ah ?_);apply cF<;>intro eN
    . refine ah ?_;exact bE bi ⟨ao,rfl,aI,aE,bc _ (.refl _ _) λ_ _ _=>⟨J,J⟩⟩
    refine aL bu ?_;refine ch b2 ?_;rintro v dg ⟨rfl,a4,a2,dt,dp⟩;have e0:=(az.1 aD).1;obtain⟨dw,c8,d6⟩:=aI.cM ai (c:=t) rfl J dp a4 dt λbO c1 aU=>by rw[T] at c1;cases c1;exact((H.snd c.stop.toNat).2 bv).2 i t r c ⟨T,aU,aD⟩ a9 (fr cJ.1).symm bz
    refine ah ?_;exact bE bi ⟨a2,rfl,dw,aE.trans c8,bc _ c8 λ_ aU _=>d6 r T aU⟩
 rintro aa eG ⟨br,rfl,aF,cz⟩;refine aL @bV ?_;have dy:uJ n q (K+1) k P br br:=by
  have e3:=aF.qg.w;refine⟨λs=>by rw[aF.xi];exact⟨rfl,rfl,rfl,rfl⟩,λs=>by rw[aF.xi];exact .refl _,λ_=>.refl _,by rw[aF.hk];omega,J,aF.snd,λi ai=>?_⟩;rcases aF.qg.new i with e|e
  . rw[e,ax] at ai;exact aJ rfl ai
  . exact .inl e
 refine jz (λm aa N=>∃S,m=2*jS n.ar.length (λi=>(S.R i).cl)+S.O.length/\aa=[.ptr f 0,.an ap v0 0 n.aB.length]/\fV M.length f aN N/\iM n M.length f S N/\uJ n q (K+1) k P br S) _ ⟨br,rfl,rfl,aF.bh,aF.eV,dy⟩ ?_;rintro m aa bq ⟨d,rfl,rfl,a3,b0,z⟩;obtain⟨aq,a6,bS,cf,cm,df,db,cg,af⟩:=id b0;obtain⟨e8,aK,dc⟩:=af.pl.c4;have cQ:=af.aX.len;have fb:=aK;simp only[eo] at aK;refine b6 @b5 aK cQ ?_;apply aW<;>intro a8
 . rcases List.eq_nil_or_concat d.O with e|⟨O,i,e⟩
   . rw[e] at a8;simp at a8
   . rw[List.concat_eq_append] at e;have c0:=af.aX;rw[e] at c0;obtain⟨o,ver,rfl,eq,er,et,ev⟩:=c0.pop;have eM:d.O.length=O.length+1:=by rw[e];simp
     have em:((d.O.length:Nat):Int) -1=(O.length:Int):=J;have ct:=af.K9 ev (λ_ _ h _=>h) dc;have e5:=z.w;have eS:=z.k;have cK:=z.snd.aX i (by rw[e];exact iq _ (dV.2 rfl));simp only[eo] at ct;have ef:=aaZ F (q:=q) (K:=K+1) ⟨aq,a6,bS,cf,cm,df,_,cg,ct⟩ cK.1 cK.2 ⟨z.snd.run,z.snd.gd,z.snd.rd,λj x=>z.snd.aX j (by rw[e];exact je _ x)⟩ (by show 2*jS n.ar.length (λi=>(d.R i).cl)+O.length<=1000;omega) (by show d.k+6<=_;omega);refine mI @b5 aK cQ em eq er et ?_;refine ch ef ?_;rintro v W ⟨rfl,aQ,ao,dr,b8,aE,aY,ee⟩;obtain⟨dz,d7⟩:=z.step e aE aY ee b8;refine ah ?_;refine .inl ⟨_,d7,ao,rfl,rfl,a3.trans (fV.trans (λj B D Q _ _=>?_) aQ),dr,dz⟩;rw[bo (cA Q)];exact D
 . have dA:d.O=[]:=lY.1 J;have b9:=jZ (n:=n.aB.length) af.pl.ky;have bX:=a3 _ _ cC (cA bd) (λ_ _ _ e=>by cases e) (.inl cH);have dF:ap≠aq:=by have:=af.ge;omega
   refine b6 @b5 aK b9 ?_;refine d4 n.aB.length (λs aa N=>∃aA u,aa=[.ptr f 0,.an ap v0 0 n.aB.length,.an aq a6 0 n.aB.length,.int .i64 n.aB.length,.int .i64 s]/\iN f aq bq N/\aA<=d.k+60*s/\jj n f aq a6 aA (.an bS cf 0 n.ar.length) (.an cm df 0 n.ar.length) db cg u d.rl N/\
    iu d.P u/\(∀s,(u s).rd=(d.P s).rd)/\kP (l3 n q (K+1)) (mW n q (K+1)) u/\∀y,y<s->tn n u y) ⟨d.k,d.P,rfl,.refl _ _ _,bk _,af.pl,.refl _,λ_=>rfl,λs=>?_,λ_ h=>aJ h (c9 _)⟩ ?_ ?_
   . obtain⟨aP,aw,bs,bt⟩:=z.aj s;have:=acO H.snd s;rw[aP,aw,bs,bt];exact this
   . rintro s aa N ae b4 ⟨aA,u,rfl,aQ,b8,aC,a5,ay,aY,bF⟩;obtain⟨c_,ce,de⟩:=aC.c4;have dn:=aQ _ _ bX (cA bd) dF (λ_ _ _ e=>by cases e);obtain⟨st,cd⟩:∃st,n.aB[s]? =I st:=⟨n.aB[s],cG ae⟩;have eP:=F.uT st (bI cd);have b3:dS n (s:Int)=st.change:=by simp only[dS,dU,cd]
     have c2:=λG=>cE N G;have c3:∀(B X:au)(G:Mem),(N++B::G).set N.length X=N++X::G:=λB X G=>hZ N B X G;have dJ:(dE n.aB.length u d.rl)[s]? =I [.int .i64 (u s).aj,.int .i64 (u s).rd,.int .i64 (u s).cn,.int .i64 (u s).fa,.int .i64 (d.rl s),.int .i64 (u s).dl]:=g8 _ ae;have bM:(dE n.aB.length P am)[s]? =I [.int .i64 (P s).aj,.int .i64 (P s).rd,.int .i64 (P s).cn,.int .i64 (P s).fa,.int .i64 (am s),.int .i64 (P s).dl]:=g8 _ ae;have cX:=λG:Mem=>a0 aC.ky G;have b_:=λG:Mem=>a0 dn G;have dP:=λG:Mem=>e2 (n:=n.aB.length) (i:=s) (cX G) ae (by rw[dE,ep];exact bk _);have cN:=λG:Mem=>e2 (n:=n.aB.length) (i:=s) (b_ G) ae (by rw[dE,ep];exact bk _);have cO:=dP [];have cY:=cX [];rw[ez] at cO cY;have bD:=aC.a1 [.box (lb (u s) (d.rl s))];have a4:iN f aq bq (N++[.box (lb (u s) (d.rl s))]):=aQ.trans (.a1 _ _ _ _);simp only[lb] at bD a4;have cc:(u s).rd=(d.P s).rd:=ay s;have dd:=λG:Mem=>a0 ce G;simp only[eo] at dd;have cZ:((u s).rd=-1∨((P s).rd≠-1/\¬(u s).rd<(P s).rd))->∀y,y<s+1->tn n u y:=λh y dm=>by
      rcases eT y s with Q|Q
      . exact bF y Q
      . obtain rfl:y=s:=J;rcases h with h|⟨av,aS⟩
        . intro g;exact aJ h g
        . have e:(u y).rd=(P y).rd:=by
           rw[cc] at aS⊢;have:=(z.rd y av).2;omega
          refine iu.bl (λs=>?_) e (cu.bl y);obtain⟨aP,aw,_⟩:=z.aj s;have:=a5 s;rw[aP,aw] at this;exact this
     have dW:=z.k;refine he b4 cO cY dJ c2 c3 ?_;apply aW<;>intro a9
     . refine ah ?_;exact bE ae ⟨aA,u,rfl,a4,J,bD,a5,ay,aY,cZ (.inl a9)⟩
     have bg:=z.snd.rd s (by rw[<-cc];exact a9);rw[<-cc] at bg;have c5:0<=(u s).rd/\(u s).rd<=3155932800:=by obtain⟨_,j,_,m,X,e,_,_,_,A,_,_,dG⟩:=bg;have:=F.aM X (bI A.cy) e (bI A.cV);omega
     refine b6 cN b_ bM ?_;apply cF<;>intro bv;refine d0 cN b_ bM c2 ?_;apply cF<;>intro bz
     . refine ah ?_;exact bE ae ⟨aA,u,rfl,a4,J,bD,a5,ay,aY,cZ (.inr ⟨bv,bz⟩)⟩
     all_goals
      refine es @b5 c2 dd cd @Stop.row.eq_1 ?_;have dI:=aC.ne.2.1;have eO:=aC.ne.2.2;refine ch (bD.imp (by omega:(0:Int)<=s) J (u s).rd ((u s).rd+st.change) (d.rl s)) ?_;rintro v dg ⟨rfl,cq,cw⟩;rw[dU] at cw;have bT:=cq N.length _ (by rw[c2];rfl) J J (λ_ _ _ e=>by cases e);refine aL bT ?_;refine ch (KB (F) cw J s (u s).rd (d.rl s) c5) ?_;rintro v eI ⟨rfl,dk,eg,bR,eU,dB,aT⟩;refine ah ?_;obtain⟨da,ej,ek,el,en⟩:=vu u s (l:=d.rl s) c5.1 (by omega:0<=(u s).rd+st.change);have ca:∀s,(bR s).rd=(d.P s).rd:=λj=>(aT.rd j).trans ((ej j).trans (ay j));refine bE ae ⟨eg,bR,rfl,a4.trans (cq.trans dk),J,dB,(a5.trans da).trans aT.imp,ca,?_,λy dm=>?_⟩
      . refine aT.snd _ _ (en _ _ aY (aa2 bg) ?_) λp bf D Q l=>?_
        . have:=aa3 (l:=d.rl s) bg (by rw[b3];omega);rw[b3] at this;exact this
        . have:=(F.bw p bf);exact aa5 bg bf D Q this.1.1 J
      . rcases eT y s with Q|Q
        . exact iu.bl (da.trans aT.imp) ((ca y).trans (ay y).symm) (bF y Q)
        . obtain rfl:y=s:=J;intro _;have dj:(bR y).rd=(u y).rd:=(ca y).trans (ay y).symm;rw[dj,b3];exact⟨(aT.imp _).1.fy ek,(aT.imp _).2.fy el,aT.all⟩
   . rintro aa N ⟨aA,u,rfl,aQ,b8,aC,a5,ay,aY,bF⟩;refine aL @bV ?_;have dM:M.length<=aq:=af.ge.2.1;obtain⟨c_,ce,de⟩:=aC.c4;obtain⟨eA,dD⟩:=af.JT aQ;have dC:∀i,(d.R i).cl≠-1->ts n d.P (λi=>(d.L i).cl) (λi=>(d.R i).cl) i (d.R i).cl:=λi ai=>by
      rcases z.xT i ai with e|e
      . rw[dA] at e;exact(gh e).elim
      . exact e
     have dO:iu P u:=λs=>by obtain⟨aP,aw,_⟩:=z.aj s;have:=a5 s;rw[aP,aw] at this;exact this
     have dW:=z.k;have du:kK f M N:=λj B D Q av=>aQ _ _ (a3 _ _ (be _ _ D Q av) Q av (.inl (az.1 D).1)) Q (by have:=(az.1 D).1;omega) av;refine⟨du,aA,aq,a6,u,J,⟨⟨c_,0,_,_,db,cg,d.rl,d.L,ce,de,aC.ky,.inr ⟨bS,cf,rfl,eA⟩,dD.mono (by have:=aC.ne.2.2;omega),?_,z.snd.gd⟩,aY,λs ae=>?_⟩,dM⟩
     . refine abV (R:=λi=>(d.R i).cl) F.bj (λr T c aD=>(F.stop r T c aD).1) ea (λp bf=>⟨(F.bw p bf).1.1,(F.bw p bf).2.1.1⟩) cu (λi r T aU dY=>(z.run i).fy ((cz i (az.1 T).1).gd r T aU dY)) (λi b r c A bJ al=>(z.run i).fy ((cz i (az.1 A.cy).1).wM r b c ?_ A bJ al)) dC dO ay λs=>?_
       . have:=(az.1 A.cV).1;have:=(F.len r (bI A.cy)).2;omega
       . rcases eT s n.aB.length with h|h
         . exact bF s h
         . intro ae;rw[ay] at ae;obtain⟨_,j,_,m,X,e,_,_,_,A,_,dG,_⟩:=z.snd.rd s ae;have:=(F.stop X (bI A.cy) e (bI A.cV)).2;omega
     . rw[ay] at ae⊢;exact z.snd.rd s ae
def hp(b:Nat)(N:Mem)(x:V)(R:List (List V)):Prop:=(x=.slice [] .nil/\R=[])∨∃a ver,x=.an a ver 0 R.length/\N[a]? =I (.aj b R ver 0)/\0<R.length
def hp.cj{b:Nat}{N a8:Mem}{x:V}{R:List (List V)}(h:hp b N x R)(f:∀(j:Nat) ver,N[j]? =I (au.aj b R ver 0)->a8[j]? =I (au.aj b R ver 0)):hp b a8 x R:=by
 rcases h with h|⟨a,ver,c,d,e⟩
 . exact .inl h
 . exact .inr ⟨a,ver,c,f _ _ d,e⟩
def hp.a1{a:Nat}{N:Mem}{x:V}{R:List (List V)}(h:hp a N x R)(L:Mem):hp a (N++L) x R:=h.cj λ_ _ h=>a0 h L
def hp.push{b bytes:Nat}{N:Mem}{x:V}{R:List (List V)}(h:hp b N x R){r:List V}(f:r.length=b)(e:(R.length+1)*(2*bytes)<=2^48):∃a ver a8,cw ad b bytes x (.slice [r] .full) N=I (.an a ver 0 (R.length+1),a8)/\a8[a]? =I (.aj b (R++[r]) ver 0)/\N.length<=a8.length/\
 (∀(j:Nat)(B:au),N[j]? =I B->j≠a->a8[j]? =I B)/\((x=.slice [] .nil/\a=N.length)∨∃v,x=.an a v 0 R.length/\N[a]? =I (.aj b R v 0)):=by
 rcases h with⟨rfl,rfl⟩|⟨a,ver,rfl,c,l⟩
 . refine⟨N.length,0,N++[.aj b [r] 0 0],?_,by simp,by simp,λj B d _=>a0 d _,.inl ⟨rfl,rfl⟩⟩;have i:decide (2*bytes<=2^48)=U:=be (by simpa using e);simp only[cw,dg,dP,f,beq_self_eq_true,bi,eU,Bool.true_and,decide_true,Bool.true_or,eu,dm,hP,Nat.one_mul,i,eH]
 . have g:=(az.1 c).1;exact⟨a,ver+1,_,md (r:=r) c rfl f e,bY g,by rw[cW];exact bk _,λj B d k=>by rw[bo (cA k)];exact d,.inr ⟨ver,rfl,c⟩⟩
def Bo(i:Nat):List V:=[aa (i:Int)]
def o5(n:ak)(i j:Nat):List Nat:=(b8 j).filter λk=>match n.bj[k]? with|some x=>decide (x.src=(i:Int))|none=>ad
def xO{n:ak}{j:Nat}{x:b1}(a:n.bj[j]? =I x)(i:Nat):o5 n i (j+1)=if x.src=(i:Int) then o5 n i j++[j] else o5 n i j:=by
 rw[o5,List.range_succ,List.filter_append,o5];by_cases h:x.src=(i:Int)
 . rw[aF h];simp[a,h]
 . rw[ax h];simp[a,h]
def aae(n:ak)(i j:Nat):(o5 n i j).length<=j:=by have:=lZ (λk=>match n.bj[k]? with|some x=>decide (x.src=(i:Int))|none=>ad) (b8 j);rw[List.length_range] at this;exact this
def ji(n:ak)(e j:Nat)(N:Mem):Prop:=∃b:List V,N[e]? =I (.b7 b 0)/\b.length=n.ar.length/\(∀i,i<n.ar.length->∃x,b[i]? =I x/\hp 1 N x ((o5 n i j).map Bo))/\
 ∀(i d a v l c g f:Nat),b[i]? =I (.an a v 0 l)->b[d]? =I (.an c g 0 f)->i≠d->a≠c
def ji.cj{n:ak}{b j:Nat}{N a8:Mem}(h:ji n b j N)(c:∀(j:Nat) B,N[j]? =I B->((∃a,B=.b7 a 0)∨∃R v,B=.aj 1 R v 0)->a8[j]? =I B):ji n b j a8:=by obtain⟨a,d,e,f,g⟩:=h;refine⟨a,c _ _ d (.inl ⟨_,rfl⟩),e,λi k=>?_,g⟩;obtain⟨x,aD,ba⟩:=f i k;exact⟨x,aD,ba.cj λj ver l=>c _ _ l (.inr ⟨_,_,rfl⟩)⟩
def ji.a1{n:ak}{a j:Nat}{N:Mem}(h:ji n a j N)(L:Mem):ji n a j (N++L):=h.cj λ_ _ h _=>a0 h L
def ji.zero{n:ak}{b:Nat}{N:Mem}(h:N[b]? =I (.b7 (d_ n.ar.length (.slice [] .nil)) 0)):ji n b 0 N:=
 ⟨_,h,by simp,λi d=>⟨.slice [] .nil,by simp[d],.inl ⟨rfl,rfl⟩⟩,λi f a v l e j g c=>by have:=List.eq_of_mem_replicate (bI c);cases this⟩
def ji.step{n:ak}(al:n.bj.length<=1000){g j:Nat}{N:Mem}(h:ji n g j N){x:b1}(t:n.bj[j]? =I x){s:Nat}(ae:x.src=(s:Int))(Z:s<n.ar.length):∃f c a ver a8,N[g]? =I (.b7 f 0)/\f.length=n.ar.length/\f[s]? =I c/\cw ad 1 8 c (.slice [[aa (j:Int)]] .full) N=I (.an a ver 0 ((o5 n s j).length+1),a8)/\a8[g]? =I (.b7 f 0)/\
 ji n g (j+1) (a8.set g (.b7 (f.set s (.an a ver 0 ((o5 n s j).length+1))) 0))/\∀(i:Nat)(B:au),N[i]? =I B->(∀R v z,B≠.aj 1 R v z)->a8[i]? =I B/\((∀f v,B≠.b7 f v)->(a8.set g (.b7 (f.set s (.an a ver 0 ((o5 n s j).length+1))) 0))[i]? =I B):=by
 obtain⟨f,u,S,w,A⟩:=h;obtain⟨c,aD,ba⟩:=w s Z;have ai:=(az.1 t).1;have am:=aae n s j;obtain⟨a,ver,a8,T,M,ap,V,E⟩:=ba.push (r:=Bo j) (bytes:=8) rfl (by rw[cz];omega);rw[cz] at T;have G:∀(i:Nat)(B:au),N[i]? =I B->(∀R v z,B≠.aj 1 R v z)->a8[i]? =I B:=λi B d C=>V i B d λe=>by
  subst e;rcases E with⟨_,rfl⟩|⟨v,_,e⟩
  . have:=(az.1 d).1;omega
  . rw[e] at d;cases d;exact C _ _ _ rfl
 have F:=G _ _ u (λ_ _ _ e=>by cases e);have Y:=(az.1 F).1;have W:a≠g:=λe=>by rw[e,F] at M;cases M
 refine⟨f,c,a,ver,a8,u,S,aD,T,F,⟨_,bY Y,by rw[cW];exact S,λi d=>?_,λi L b v l ah aq ao p k D=>?_⟩,λi B d C=>⟨G i B d C,λab=>?_⟩⟩
 . by_cases K:i=s
   . subst K;refine⟨_,bY J,.inr ⟨a,ver,?_,?_,?_⟩⟩
     . rw[xO t,aF ae,cz,b0];rfl
     . rw[bo (cA W),M,xO t,aF ae,iL];rfl
     . rw[xO t,aF ae];simp
   . obtain⟨y,m,q⟩:=w i d;refine⟨y,by rw[bo (cA K)];exact m,?_⟩;rw[xO t,ax λe=>by rw[ae] at e;omega];rcases q with q|⟨b,O,rfl,o,af⟩
     . exact .inl q
     . refine .inr ⟨b,O,rfl,?_,af⟩;have X:b≠g:=λe=>by rw[e,u] at o;cases o
       rw[bo (cA X)];refine V _ _ o λe=>?_;subst e;rcases E with⟨_,rfl⟩|⟨v,e,_⟩
       . have:=(az.1 o).1;omega
       . rw[e] at aD;exact A _ _ _ _ _ _ _ _ aD m (cA K) rfl
 . by_cases P:i=s
   . subst P;rw[bY J] at p;cases p;rw[bo D] at k;intro e;subst e;rcases E with⟨_,rfl⟩|⟨v,e,_⟩
     . have H:L<n.ar.length:=by have:=(az.1 k).1;omega
       obtain⟨y,m,q⟩:=w L H;rw[k] at m;cases m;rcases q with⟨e,_⟩|⟨b,O,e,o,_⟩
       . cases e
       . cases e;have:=(az.1 o).1;omega
     . rw[e] at aD;exact A _ _ _ _ _ _ _ _ aD k D rfl
   . rw[bo (cA P)] at p;by_cases Q:L=s
     . subst Q;rw[bY J] at k;cases k;intro e;subst e;rcases E with⟨_,rfl⟩|⟨v,e,_⟩
       . have H:i<n.ar.length:=by have:=(az.1 p).1;omega
         obtain⟨y,m,q⟩:=w i H;rw[p] at m;cases m;rcases q with⟨e,_⟩|⟨b,O,e,o,_⟩
         . cases e
         . cases e;have:=(az.1 o).1;omega
       . rw[e] at aD;exact A _ _ _ _ _ _ _ _ p aD D rfl
     . rw[bo (cA Q)] at k;exact A _ _ _ _ _ _ _ _ p k D
 . rw[bo λe=>by subst e;rw[u] at d;cases d;exact ab _ _ rfl];exact G i B d C
def ji.all{n:ak}{b:Nat}{N:Mem}(h:ji n b n.bj.length N):ly n N.length N (.an b 0 0 n.ar.length):=by
 obtain⟨d,c,f,g,_⟩:=h;refine⟨b,0,d,(az.1 c).1,rfl,c,f,λi j=>?_⟩;obtain⟨x,aD,ba⟩:=g i j;refine⟨x,aD,?_⟩;rcases ba with⟨e,ba⟩|⟨a,ver,e,ba,_⟩
 . exact .inl ⟨e,List.map_eq_nil_iff.1 ba⟩
 . rw[cz] at e;exact .inr ⟨a,ver,(az.1 ba).1,e,ba⟩
def JF{M:Mem}{n:Nat}(a:n<=1000):t1 (.slice [] .nil) 24 (aa (n:Int)) (aa (n:Int)) M=I (.an M.length 0 0 n,M++[.b7 (d_ n (.slice [] .nil)) 0]):=by simp only[t1,AQ (zero:=[V.slice [] .nil]) (sz:=1) (bytes:=24) (M:=M) a J,dU]
def aaT(n:ak)(q:aG)(c:n.wf)(ok:di n)(al:ka n.aB.length q)(b:q.hE=ad):bq aH 56 [.agg n.row,.agg q.row] (λv=>v=v0):=by have a:=wb n q c ok al;refine bB Hn ?_;simp only[ak.row,aG.row] at a;refine bN @ak.row.eq_1 @aG.row.eq_1 ?_;exact bG a (jy b)
def ly.sq{n:ak}{g:Nat}{M d:Mem}{v:V}(h:ly n g M v)(k:∀(j:Nat) B,j<g->((∃c v,B=.b7 c v)∨∃(l:List Nat)(v:Nat),B=.aj 1 (l.map Bo) v 0)->M[j]? =I B->d[j]? =I B):ly n g d v:=by
 obtain⟨b,ver,c,e,m,o,p,q⟩:=h;refine⟨b,ver,c,e,m,k _ _ e (.inl ⟨_,_,rfl⟩) o,p,λi r=>?_⟩;obtain⟨x,aD,ba⟩:=q i r;refine⟨x,aD,?_⟩;rcases ba with ba|⟨a,t,f,bA,s⟩
 . exact .inl ba
 . exact .inr ⟨a,t,f,bA,k _ _ f (.inr ⟨_,_,rfl⟩) s⟩
def ow.freeze{n:ak}{q:aG}{K f k b v0:Nat}{P:Nat->co}{M:Mem}(H:ow n q K f k b v0 P M)(G:0<n.aB.length):∃m l p o r c N,M[f]? =I (eo n m (.an b v0 0 n.aB.length) l p o r)/\qW (.ptr f 10) M=I (.slice (dE n.aB.length P c) .bF,N)/\ow n q K f k b v0 P N/\
 (∀(j:Nat)(B:au),M[j]? =I B->j≠b->N[j]? =I B)/\N.length=M.length/\N[f]? =I (eo n m (.an b v0 0 n.aB.length) l p o r):=by
 obtain⟨m,t,l,p,o,r,c,L,d,w,g,x,y,A,C⟩:=H.mem;have D:=(az.1 g).1;have F:(dE n.aB.length P c).length=n.aB.length:=ep _ _;have u:decide (n.aB.length<=(dE n.aB.length P c).length)=U:=bR;have v:decide (0<n.aB.length)=U:=be G;have i:∀(j:Nat)(B X:au),M[j]? =I B->j≠b->(M.set b X)[j]? =I B:=λj B X a h=>by rw[bo (cA h)];exact a
 have s:f≠b:=λe=>by rw[e,g] at d;cases d
 refine⟨m,l,p,o,r,c,M.set b (.aj 6 (dE n.aB.length P c) v0 (max t n.aB.length)),d,?_,⟨⟨m,max t n.aB.length,l,p,o,r,c,L,i _ _ _ d s,w.set g (λ_ _ _ e=>by cases e) _,bY D,x.cj (λj X ver a=>i _ _ _ a λe=>by rw[e,g] at a;cases a),?_,A,C⟩,H.snd,H.rd⟩,λj B a h=>i j B _ a h,cW,i _ _ _ d s⟩
 . have E:dZ 1 ad (.ptr f 10) M=I (.an b v0 0 n.aB.length):=by simp only[dZ,d,eo];rfl
   simp only[qW,E,kg,g,beq_self_eq_true,u,v,cR,bi,eS (Nat.le_of_eq F)]
 . rw[cW];exact y.sq λj B _ z a=>i j B _ a λe=>by rw[e,g] at a;cases a;rcases z with⟨_,_,e⟩|⟨_,_,e⟩<;>cases e
def uL(n:ak)(q:aG)(k:Nat)(R:List (List V)):Prop:=R.length=k/\∀(j:Nat)(r:List V),R[j]? =I r->∃(P:Nat->co)(a:Nat->Int),r=[.slice (dE n.aB.length P a) .bF]/\(∃L,pm n q j P L)/\kP (l3 n q j) (mW n q j) P
def nI(N:Mem)(x:V)(R:List (List V)):Prop:=x=.slice R .full∨∃a ver,x=.an a ver 0 R.length/\N[a]? =I (.aj 1 R ver 0)
def nI.push{n:ak}{q:aG}{K f k i v0:Nat}{P:Nat->co}{N:Mem}{x:V}{R:List (List V)}(h:nI N x R)(o:uL n q (K+1) R)(H:ow n q (K+1) f k i v0 P N)(d:Nat->Int)(al:K<=100):∃C a8,cw ad 1 24 x (.slice [[.slice (dE n.aB.length P d) .bF]] .full) N=I (C,a8)/\
 nI a8 C (R++[[.slice (dE n.aB.length P d) .bF]])/\uL n q (K+2) (R++[[.slice (dE n.aB.length P d) .bF]])/\ow n q (K+1) f k i v0 P a8:=by
 obtain⟨Y,ah,W,ae,Z,af,ab,L,D,E,F,G,M,t,O⟩:=H.mem;have u:=o.1;obtain⟨aa,c⟩:∃r,R[0]? =I r:=⟨R[0]'J,cG J⟩;obtain⟨ai,am,s,_⟩:=o.2 0 aa c;have A:uL n q (K+2) (R++[[.slice (dE n.aB.length P d) .bF]]):=by
  refine⟨by simp[u],λj r b=>?_⟩;rcases eT j R.length with h|h
  . rw[et h] at b;exact o.2 j r b
  . have p:=(az.1 b).1;simp only[b0,hP] at p;obtain rfl:j=K+1:=J;rw[fH h,u,hA] at b;cases b;exact⟨P,d,rfl,⟨_,t⟩,H.snd⟩
 have w:∀a8:Mem,N.length<=a8.length->(∀(j:Nat)(B:au),N[j]? =I B->(∀v,B≠.aj 1 R v 0)->a8[j]? =I B)->ow n q (K+1) f k i v0 P a8:=λa8 p g=>by
  refine⟨⟨Y,ah,W,ae,Z,af,ab,L,g _ _ D (λ_ e=>by cases e),E.cj λj R ver b=>g _ _ b (λ_ e=>by cases e),g _ _ F (λ_ e=>by cases e),G.cj (λj X ver b=>g _ _ b (λ_ e=>by cases e)),(M.sq λj B _ m b=>g _ _ b λv e=>?_).mono p,t,O⟩,H.snd,H.rd⟩;subst e;rcases m with⟨_,_,e⟩|⟨l,_,e⟩
  . cases e
  . cases e;rw[dK] at c;cases y:l[0]? with
    |none=>rw[y] at c;cases c
    |some z=>rw[y] at c;rw[s] at c;cases c
 rcases h with rfl|⟨a,ver,rfl,h⟩
 . refine⟨.an N.length 0 0 (R.length+1),N++[.aj 1 (R++[[.slice (dE n.aB.length P d) .bF]]) 0 0],?_,.inr ⟨N.length,0,by simp,by simp⟩,A,w _ (by simp) λj B b _=>a0 b _⟩;have S:decide ((R.length+1)*(2*24)<=2^48)=U:=bR;have T:dP 1 R=U:=by
    cases R with
    |nil=>rfl
    |cons r R=>simp only[hg] at c;cases c;rw[s];rfl
   simp only[cw,dg,eU,T,hP,S,Bool.and_true,decide_true,Bool.or_true,show dP 1 [[V.slice (dE n.aB.length P d) .bF]]=U from rfl,bi]
 . have Q:=(az.1 h).1;refine⟨_,_,md (r:=[.slice (dE n.aB.length P d) .bF]) h rfl rfl J,.inr ⟨a,ver+1,by simp,bY Q⟩,A,w _ (by rw[cW];exact bk _) λj B b m=>?_⟩;rw[bo λe=>by subst e;rw[h] at b;cases b;exact m _ rfl];exact b
def adG{n:ak}{q:aG}{r i b:Nat}(h:eg n q r i b):1<=r:=by induction h<;>omega
def aaU(n:ak)(q:aG)(bn:n.wf)(ok:di n)(al:ka n.aB.length q)(ca:q.hE=ad)(b0:q.aY<=5){o:aG}(C:o.src=q.src)(K:o.aM=q.aM)(a7:o.hc=q.hc)
 (bd:bq aH 57 [.agg (c8 n q).row] (λv=>∃x,v=.tuple [x,v0]))(bL bM:au):
 bx aH 28 [.agg n.row,.agg q.row] [bL,bM] (λv N=>∃x y R,v=.tuple [y,x,v0]/\nI N x R/\uL (c8 n q) o (q.aY.toNat+1) R):=by
 have bl:=aaT n q bn ok al ca;have bh:=v_ n q bn ok al;have F:=vV (tt n q ok);have cp:(c8 n q).aB.length=n.aB.length:=rfl;generalize c8 n q=f at*;have dc:=F.aB;have db:=F.ar;refine dX Hp ?_;simp only[dN];simp only[ak.row,aG.row] at bl bh bd;refine bN @ak.row.eq_1 @aG.row.eq_1 ?_;refine bG bl (ah ?_);refine bG bh (ah ?_);refine d2 bd ?_;rintro v ⟨dv,rfl⟩;have bs:=aaY (n:=f.ar.length) J;refine ah ?_;refine nO bs (aL @JF ?_);refine⟨⟨bq.call bs rfl (λx Z _=>⟨Z,rfl⟩),λh=>kI h⟩,?_⟩;have da:=F.xD;refine c6 f.bj (λj t N=>t=[.ptr 3 0,.ptr 4 0,.ptr 6 0,.slice (f.bj.map b1.row) f.lc,aa f.bj.length,aa j]/\N[3]? =I (.box q.row)/\N[4]? =I (.box f.row)/\
  N[6]? =I (eo f (.slice [] .nil) (.slice [] .nil) (.slice (dR f.ar.length λ_=>gl) .bF) (.slice [] .nil) (.slice [] .nil) (.an 5 0 0 f.ar.length))/\ji f 5 j N) ⟨rfl,rfl,rfl,rfl,.zero rfl⟩ ?_ ?_
 . rintro j x t N Z H W ⟨rfl,u,D,m,L⟩;obtain⟨⟨cm,cn⟩,_⟩:=F.iY x (bI Z);obtain⟨bD,bC,bB,bA,bH⟩:=x;obtain⟨s,rfl⟩:∃s:Nat,bD=s:=⟨bD.toNat,by simp only at cm;omega⟩;have br:s<f.ar.length:=by simp only at cn;omega
   obtain⟨bU,c,a,ver,a8,ab,Q,bu,aU,aV,cy,av⟩:=(L.a1 [.box [aa s,aa bC,aa bB,aa bA,.bool bH]]).step J Z rfl br;have a6:=λG=>cE N G;have bW:∀(B X:au)(G:Mem),(N++B::G).set N.length X=N++X::G:=λB X G=>hZ N B X G;have E:=a0 m [.box [aa s,aa bC,aa bB,aa bA,.bool bH]];have M:=av _ _ E (λ_ _ _ e=>by cases e);have aW:=av _ _ (a0 u _) (λ_ _ _ e=>by cases e);have aX:=av _ _ (a0 D _) (λ_ _ _ e=>by cases e);have bm:decide (s<f.ar.length)=U:=be br;have c5:decide (s<bU.length)=U:=by rw[Q];exact bm
   have c0:a8.length>=0:=c_ _;have dA:=(av N.length _ (by rw[a6];rfl) (λ_ _ _ e=>by cases e)).1;simp only[eo] at E M;simp-implicitDefEqProofs (disch:=omega) only[go_sem,W,Z,b1.row,a6,bW,b5,E,ab,Q,bu,aU,aV,bm,M.1,dA];refine bE H ⟨rfl,aW.2 (λ_ _ e=>by cases e),aX.2 (λ_ _ e=>by cases e),M.2 (λ_ _ e=>by cases e),cy⟩
 rintro t N ⟨rfl,u,D,m,L⟩;simp only[eo] at m;have T:=D;simp only[ak.row] at T;refine bN @bV T ?_;have O:∀j:Nat,(d_ j (lb ⟨-1,-1,-1,-1,-1⟩ (-1))).length=j:=λj=>List.length_replicate;refine d4 f.aB.length (λj t N=>∃x,t=[.ptr 3 0,.ptr 4 0,.ptr 6 0,aa f.aB.length,aa j]/\N[3]? =I (.box q.row)/\N[4]? =I (.box f.row)/\
  N[6]? =I (eo f (.slice [] .nil) x (.slice (dR f.ar.length λ_=>gl) .bF) (.slice [] .nil) (.slice [] .nil) (.an 5 0 0 f.ar.length))/\hp 6 N x (d_ j (lb ⟨-1,-1,-1,-1,-1⟩ (-1)))/\ji f 5 f.bj.length N) ⟨_,rfl,u,D,by simp only[eo];exact m,.inl ⟨rfl,rfl⟩,L⟩ ?_ ?_
 . rintro j t N H W ⟨x,rfl,u,D,m,aC,L⟩;obtain⟨a,ver,a8,ab,Q,bu,aU,aV⟩:=aC.push (r:=lb ⟨-1,-1,-1,-1,-1⟩ (-1)) (bytes:=48) rfl (by rw[O];omega);rw[O] at ab;have am:∀(i:Nat)(B:au),N[i]? =I B->(∀R v,B≠.aj 6 R v 0)->a8[i]? =I B:=λi B g w=>aU i B g λe=>by
    subst e;rcases aV with⟨_,rfl⟩|⟨v,_,e⟩
    . have:=(az.1 g).1;omega
    . rw[e] at g;cases g;exact w _ _ rfl
   have M:=am _ _ m (λ_ _ e=>by cases e);have aW:=am _ _ u (λ_ _ e=>by cases e);have aX:=am _ _ D (λ_ _ e=>by cases e);have b2:=(az.1 M).1;have b_:a≠6:=λe=>by rw[e,M] at Q;cases Q
   have ap:∀(i:Nat)(B X:au),a8[i]? =I B->i≠6->(a8.set 6 X)[i]? =I B:=λi B X g h=>by rw[bo (cA h)];exact g
   have E:=m;have bv:=M;simp only[eo] at E bv;simp only[lb] at ab;refine es W @b5 E ab bv ?_;refine bE H ⟨_,rfl,ap _ _ _ aW J,ap _ _ _ aX J,bY b2,.inr ⟨a,ver,by rw[O],?_,by rw[O];omega⟩,L.cj λi B g w=>ap _ _ _ (am _ _ g λR v e=>?_) λe=>?_⟩
   . rw[List.replicate_succ'];exact ap _ _ _ Q b_
   . rw[e] at w;rcases w with⟨_,e⟩|⟨_,_,e⟩<;>cases e
   . rw[e,m] at g;cases g;rcases w with⟨_,e⟩|⟨_,_,e⟩<;>cases e
 rintro t N ⟨x,rfl,u,D,m,aC,L⟩;have Y:=al.src;have de:f.aB.length=n.aB.length:=cp;rcases aC with⟨_,e⟩|⟨ae,v0,rfl,A,_⟩
 . exfalso;have:=congrArg List.length e;rw[O] at this;simp only[eu] at this;omega
 rw[O] at m;have cl:d_ f.aB.length (lb ⟨-1,-1,-1,-1,-1⟩ (-1))=dE f.aB.length (λ_=>⟨-1,-1,-1,-1,-1⟩) λ_=>-1:=vR _ _;rw[cl] at A;have b7:jj f 6 ae v0 0 (.slice (dR f.ar.length λ_=>gl) .bF) (.slice [] .nil) (.slice [] .nil) (.an 5 0 0 f.ar.length) (λ_=>⟨-1,-1,-1,-1,-1⟩) (λ_=>-1) N:=⟨⟨_,m,.inl ⟨rfl,rfl⟩⟩,A⟩;have ai:=u;have T:=D;have E:=m;simp only[aG.row] at ai;simp only[ak.row] at T;simp only[eo] at E;have cZ:(⟨-1,-1,-1,-1,-1⟩:co).rd=-1:=rfl;obtain⟨st,aS⟩:∃st,f.aB[q.src.toNat]? =I st:=⟨f.aB[q.src.toNat]'J,cG J⟩;have c3:=F.uT st (bI aS);have cc:dS f q.src=st.change:=by simp only[dS,aS]
 have aT:=al.aM;have ce:d8 4 (.slice (f.aB.map Stop.row) f.ij) (aa q.src) N=I (.eD st.row):=by
  have d:decide (0<=q.src)=U:=be Y.1;have cd:(f.aB.map Stop.row)[q.src.toNat]? =I st.row:=by rw[dK,aS];rfl
  simp only[d8,d,bi,cd];rfl
 refine bN @bV ai ?_;apply dt<;>intro ba;have aR:q.aM+st.change=o.aM+(if o.hc then dS f o.src else 0):=by rw[C,K,a7,aF ba,cc]
 have aQ:0<=q.aM+st.change:=J;rotate_left;have aR:q.aM=o.aM+(if o.hc then dS f o.src else 0):=by rw[K,a7,ax (by rw[ba];exact kI)];omega
 have aQ:0<=q.aM:=aT.1;all_goals
  refine d0 ai T ce @Stop.row.eq_1 ?_;refine ch (b7.imp Y.1 J _ _ _) ?_;rintro v cW ⟨rfl,a9,b8⟩;have bb:=a9 _ _ ai J (λe=>by rw[<-e,u] at A;cases A) (λ_ _ _ e=>by cases e);refine aL bb ?_;refine ch (KB (F) b8 J q.src q.aM (-1) aT) ?_;rintro v a2 ⟨rfl,a_,bt,S,c7,bf,V⟩;have ci:=vu (λ_=>(⟨-1,-1,-1,-1,-1⟩:co)) q.src.toNat (l:=-1) aT.1 aQ;obtain⟨dm,cu,cv,cw,cx⟩:=ci;have bp:∀s,(S s).rd=-1:=λs=>(V.rd s).trans (cu s);have aI:ow f o 0 6 bt ae v0 S a2:=by
   obtain⟨ct,cJ,dD⟩:=bf.c4;have b3:ji f 5 f.bj.length a2:=L.cj λi B g w=>by
    have a5:i≠6:=λe=>by rw[e,m] at g;cases g;rcases w with⟨_,e⟩|⟨_,_,e⟩<;>cases e
    have eL:i≠ae:=λe=>by rw[e,A] at g;cases g;rcases w with⟨_,e⟩|⟨_,_,e⟩<;>cases e
    have a4:∀R v z,B≠.aj 10 R v z:=λ_ _ _ e=>by rw[e] at w;rcases w with⟨_,e⟩|⟨_,_,e⟩<;>cases e
    exact a_ _ _ (a9 _ _ g a5 eL a4) a5 eL a4
   refine⟨⟨ct,0,_,_,_,_,_,λ_=>gl,cJ,dD,bf.ky,.inl ⟨_,rfl⟩,b3.all,⟨⟨?_,?_,?_⟩,λs h=>aJ (bp s) h,λr j a cq dd=>aJ (adG cq) J⟩,λi h=>aJ rfl h⟩,?_,λs h=>aJ (bp s) h⟩
   . rw[C,K];exact(V.imp _).1.fy cv
   . rw[<-aR,C];exact(V.imp _).2.fy cw
   . rw[C,K];exact V.all
   . refine V.snd _ _ (cx _ _ (λs=>⟨λh=>aJ rfl h,λh=>aJ rfl h⟩) ⟨0,bk _,?_⟩ ⟨aQ,λi b R B aD aO aq ao=>⟨1,bk _,?_⟩⟩) λp aP ay aA l=>?_
     . rw[fr Y.1,<-C,<-K];exact .eP
     . rw[fr Y.1,<-C] at aq;rw[aR] at ao;exact .eP aD aO aq ao
     . have ck:=(F.bw p aP);rw[l3,mW,fr ck.1.1,<-K];rw[<-C] at ay;rw[<-K] at aA;exact⟨⟨0,bk _,.kA aP ay aA⟩,J,λi b R B aD aO aq ao=>⟨1,bk _,.kA aP ay aA aD aO aq ao⟩⟩
  obtain⟨dj,df,dr,dn,dy,bz,cX,cQ,cR,cS,cT,dC,dF⟩:=aI.freeze J;have bZ:=a_ _ _ bb J (λe=>by rw[<-e,u] at A;cases A) (λ_ _ _ e=>by cases e);have bc:=cT _ _ bZ (λe=>by rw[<-e,u] at A;cases A);obtain⟨a3,bg⟩:∃k:Nat,q.aY=k:=⟨q.aY.toNat,by have:=al.aY;omega⟩;simp only[bg] at bc b0;rw[bg,dU];simp only[eo] at cQ;refine b6 @b5 cR bc ?_;refine d4 a3 (λj t N=>∃k b v P x R,t=[.ptr 6 0,x,aa a3,aa j]/\ow f o j 6 k b v P N/\k<=100+1000*j/\nI N x R/\uL f o (j+1) R) ⟨bt,ae,v0,S,_,[[.slice (dE f.aB.length S bz) .bF]],rfl,cS,J,.inl rfl,rfl,λj r H=>?_⟩ ?_ ?_
  . have cf:=(az.1 H).1;simp only[hP] at cf;obtain rfl:j=0:=J;cases H;obtain⟨_,_,_,_,_,_,_,cU,_,_,_,_,_,cP,_⟩:=aI.mem;exact⟨S,bz,rfl,⟨_,cP⟩,aI.snd⟩
  . rintro j t bO H W ⟨cr,bS,cH,bQ,aZ,aw,rfl,aE,cg,aK,aN⟩;obtain⟨dk,_,dg,ds,dp,dz,_,_,bJ,_⟩:=aE.mem;have cb:=aaX (F) (by rw[C];exact Y.1) aE J;have bK:=bJ;simp only[eo] at bK;refine b6 W @b5 bK ?_;refine ch cb ?_;rintro v cY ⟨rfl,bX,cs,bT,cI,bR,c9,b4,c2⟩;obtain⟨dl,dh,du,dq,dB,cz,bP,cK,cL,cM,cN,dw,dx⟩:=b4.freeze J;have b9:nI bP aZ aw:=by
     rcases aK with h|⟨a,ver,h,af⟩
     . exact .inl h
     . have c1:=(az.1 af).1;exact .inr ⟨a,ver,h,cN _ _ (bX _ _ af (λe=>by rw[e,bJ] at af;cases af) (λ_ _ _ e=>by cases e)) J⟩
    obtain⟨cO,cV,cB,cC,cD,cF⟩:=b9.push aN cM cz J;simp only[eo] at cK;refine b6 @b5 cL cB ?_;exact bE H ⟨cs,bT,cI,bR,cO,_,rfl,cF,J,cC,cD⟩
  . rintro t bO ⟨cr,bS,cH,bQ,aZ,aw,rfl,aE,cg,aK,aN⟩;refine aL @bV ?_;exact⟨aZ,_,aw,rfl,aK,aN⟩
def jk(M N:Mem):Prop:=M.length<=N.length/\∀(j:Nat)(B:au),M[j]? =I B->N[j]? =I B
def jk.refl(M:Mem):jk M M:=⟨bk _,λ_ _ h=>h⟩
def jk.trans{M N P:Mem}(a:jk M N)(b:jk N P):jk M P:=⟨fJ a.1 b.1,λj B h=>b.2 j B (a.2 j B h)⟩
def jk.a1(M L:Mem):jk M (M++L):=⟨by simp,λ_ _ h=>a0 h L⟩
def h4(g b:Nat)(N:Mem)(x:V)(R:List (List V)):Prop:=(x=.slice [] .nil/\R=[])∨∃a ver,g<=a/\x=.an a ver 0 R.length/\N[a]? =I (.aj b R ver 0)/\0<R.length
def h4.pre{g b:Nat}{N a8:Mem}{x:V}{R:List (List V)}(h:h4 g b N x R)(p:jk N a8):h4 g b a8 x R:=by
 rcases h with h|⟨a,ver,c,d,e,f⟩
 . exact .inl h
 . exact .inr ⟨a,ver,c,d,p.2 _ _ e,f⟩
def h4.push{M:Mem}{c bytes:Nat}{N:Mem}{x:V}{R:List (List V)}(h:h4 M.length c N x R)(p:jk M N){r:List V}(n:r.length=c)(f:(R.length+1)*(2*bytes)<=2^48):∃a ver a8,cw ad c bytes x (.slice [r] .full) N=I (.an a ver 0 (R.length+1),a8)/\h4 M.length c a8 (.an a ver 0 (R.length+1)) (R++[r])/\jk M a8:=by
 have g:hp c N x R:=by
  rcases h with h|⟨a,ver,g,d,k,l⟩
  . exact .inl h
  . exact .inr ⟨a,ver,d,k,l⟩
 obtain⟨a,ver,a8,o,q,s,t,u⟩:=g.push n f;have m:M.length<=a:=by
  rcases u with⟨_,rfl⟩|⟨v,e,_⟩
  . exact p.1
  . rcases h with⟨h,_⟩|⟨b,w,f,d,_⟩
    . rw[h] at e;cases e
    . rw[d] at e;cases e;exact f
 exact⟨a,ver,a8,o,.inr ⟨a,ver,m,by simp,q,by simp⟩,fJ p.1 s,λj B i=>t _ _ (p.2 j B i) (by have:=(az.1 i).1;omega)⟩
def h4.pO{g e:Nat}{N:Mem}{x:V}{R:List (List V)}(h:h4 g e N x R)(k:Nat):∃c,cY N 0 (k+1) x=I (.slice R c):=by
 rcases h with⟨rfl,rfl⟩|⟨a,ver,_,rfl,b,f⟩
 . exact⟨.nil,rfl⟩
 . refine⟨.bF,?_⟩;have d:decide (0+R.length<=R.length)=U:=bR;simp only[cY,b,decide_eq_false (c9 a),eE,beq_self_eq_true,d,cR,bi,hN,f_]
def h4.gG{M:Mem}{d:Nat}{N:Mem}{x:V}{R:List (List V)}(h:h4 M.length d N x R)(p:jk M N)(b:0<R.length):∃a8,kg x N=I (.slice R .bF,a8)/\jk M a8:=by
 rcases h with⟨_,h⟩|⟨a,ver,i,rfl,f,g⟩
 . rw[h] at b;simp at b
 . have e:decide (R.length<=R.length)=U:=be (bk _);refine⟨_,?_,(by rw[cW];exact p.1:M.length<=(N.set a (.aj d R ver (max 0 R.length))).length),λj B c=>?_⟩
   . simp only[kg,f,beq_self_eq_true,e,cR,bi,be b,f_]
   . rw[bo (by have:=(az.1 c).1;omega)];exact p.2 j B c
theorem nI.n4{N:Mem}{x:V}{R:List (List V)}(h:nI N x R):eY x N=I (aa R.length)/\∀(j:Nat)(y:V),R[j]? =I [y]->∃E,d8 1 x (aa (j:Int)) N=I E/\dZ 1 ad E N=I y:=by
 rcases h with rfl|⟨a,ver,rfl,h⟩
 . refine⟨rfl,λj y b=>⟨.eD [y],?_,rfl⟩⟩;have d:decide (0<=(j:Int))=U:=bR;simp only[d8,d,bi,dU,b];rfl
 . refine⟨jZ h,λj y b=>⟨_,e2 h (az.1 b).1 (bk _),?_⟩⟩;simp only[dZ,h,beq_self_eq_true,bi,b];rfl
def nI.pre{N a8:Mem}{x:V}{R:List (List V)}(h:nI N x R)(p:jk N a8):nI a8 x R:=by
 rcases h with h|⟨a,ver,b,h⟩
 . exact .inl h
 . exact .inr ⟨a,ver,b,p.2 _ _ h⟩
def nL(n:Nat)(P:Nat->co):List (List V):=f7 n λs=>[aa (P s).aj]
def MJ(n:ak)(q:aG)(v:V)(k:Nat):Prop:=∃(T:List (List V))(c:cg),v=.tuple [.slice T c,v0]/\T.length=k/\∀(j:Nat)(r:List V),T[j]? =I r->∃P,r=[.slice (nL n.aB.length P) .bF]/\(∃L,pm n q j P L)/\kP (l3 n q j) (mW n q j) P
def aaS(n:ak)(q:aG)(aC:n.wf)(ok:di n)(al:ka n.aB.length q)(ar:q.hE=ad)(ai:q.aY<=5){q0:aG}(ab:q0.src=q.src)(af:q0.aM=q.aM)(ah:q0.hc=q.hc)
 (ap:bq aH 57 [.agg (c8 n q).row] (λv=>∃x,v=.tuple [x,v0])):bq aH 11 [.agg n.row,.agg q.row] (λv=>MJ (c8 n q) q0 v (q.aY.toNat+1)):=by
 have K:=λQ S=>aaU n q aC ok al ar ai ab af ah ap Q S;have aD:0<(c8 n q).aB.length/\(c8 n q).aB.length<=5:=⟨by have:=al.src;show 0<n.aB.length;omega,ok.aB⟩;have aR:=al.aY;generalize c8 n q=d at*;refine bB Hj ?_;simp only[ak.row,aG.row] at K;refine bN @ak.row.eq_1 @aG.row.eq_1 ?_;refine ch (K _ _) ?_;rintro v D ⟨x,aS,R,rfl,F,H⟩;have aQ:=H.1;have aA:=F.n4.1;refine aL aA ?_;refine c6 R (λj f N=>∃y T,f=[v0,y,x,aa R.length,aa j]/\jk D N/\h4 D.length 1 N y T/\T.length=j/\
  ∀(j:Nat)(r:List V),T[j]? =I r->∃P,r=[.slice (nL d.aB.length P) .bF]/\(∃L,pm d q0 j P L)/\kP (l3 d q0 j) (mW d q0 j) P) ⟨.slice [] .nil,[],rfl,.refl _,.inl ⟨rfl,rfl⟩,rfl,λj r h=>by simp at h⟩ ?_ ?_;rotate_left
 . rintro f N ⟨y,T,rfl,w,o,t,u⟩;obtain⟨c,aK⟩:=o.pO 18;refine aL @bV ?_;rw[aX,uh];show hC ((eO (cY N 0 19) [y,v0]).map .tuple) _;have e:eO (cY N 0 19) [y,v0]=I [.slice T c,v0]:=by
    simp only[eO,aK];rfl
   rw[e];exact⟨rfl,⟨T,c,rfl,J,u⟩,rfl,rfl⟩
 rintro j r f N M ax av ⟨y,T,rfl,w,o,t,u⟩;obtain⟨P,i,rfl,ao,aq⟩:=H.2 j r M;obtain⟨E,am,an⟩:=(F.pre w).n4.2 j _ M;have aJ:(dE d.aB.length P i).length=d.aB.length:=ep _ _;refine d0 av am an aJ ?_;refine d4 d.aB.length (λs f b=>∃l,f=[v0,y,l,x,aa R.length,aa j,.slice (dE d.aB.length P i) .bF,aa d.aB.length,aa s]/\jk N b/\h4 N.length 1 b l (f7 s λs=>[aa (P s).aj])) ⟨.slice [] .nil,rfl,.refl _,.inl ⟨rfl,rfl⟩⟩ ?_ ?_
 . rintro s f b ae aI ⟨l,rfl,z,p⟩;have aE:=z.trans (.a1 b [.box (lb (P s) (i s))]);obtain⟨a,ver,W,g,m,C⟩:=(p.pre (.a1 b [.box (lb (P s) (i s))])).push aE (r:=[aa (P s).aj]) (bytes:=8) rfl (by rw[ep];omega);rw[ep] at g m;have Y:=λG=>cE b G;have Z:∀(B X:au)(G:Mem),(b++B::G).set b.length X=b++X::G:=λB X G=>hZ b B X G;have aw:(dE d.aB.length P i)[s]? =I [aa (P s).aj,aa (P s).rd,aa (P s).cn,aa (P s).fa,aa (i s),aa (P s).dl]:=g8 _ ae;simp only[lb] at g;refine es aI aw Y Z g ?_;refine bE ae ⟨_,rfl,C,?_⟩;have e:(f7 (s+1) λs=>[V.int .i64 (P s).aj])=(f7 s λs=>[aa (P s).aj])++[[aa (P s).aj]]:=by simp[f7,List.range_succ]
   rw[e];exact m
 . rintro f b ⟨l,rfl,z,p⟩;obtain⟨W,aN,O⟩:=p.gG z (by rw[ep];exact aD.1);have aF:=w.trans O;obtain⟨a,ver,aP,g,m,C⟩:=(o.pre O).push aF (r:=[.slice (nL d.aB.length P) .bF]) (bytes:=24) rfl J;simp only[nL] at g;refine b6 @bV aN g ?_;refine bE ax ⟨_,_,rfl,C,m,by simp[t],λA aO k=>?_⟩;rcases eT A T.length with h|h
   . rw[et h] at k;exact u A aO k
   . have ay:=(az.1 k).1;simp only[b0,hP] at ay;obtain rfl:A=j:=J;rw[fH h,t,hA] at k;cases k;exact⟨P,rfl,ao,aq⟩
def I8{M:Mem}{a v n:Nat}{b:List V}(c:M[a]? =I (.b7 b v)):eY (.an a v 0 n) M=I (aa n):=by simp only[eY,c,beq_self_eq_true,bi]
def Al{M:Mem}{a v i n:Nat}{b:List V}(d:M[a]? =I (.b7 b v))(e:i<n)(f:n<=b.length):d8 1 (.an a v 0 n) (aa (i:Int)) M=I (.df a v i 0):=by have c:decide (0<=(i:Int))=U:=bR;simp only[d8,c,bi,d,beq_self_eq_true,dU,be e,dm,be f,cR]
def Je{M:Mem}{a v i:Nat}{b:List V}{x:V}(c:M[a]? =I (.b7 b v))(d:b[i]? =I x):dZ 1 ad (.df a v i 0) M=I x:=by simp only[dZ,c,beq_self_eq_true,bi,uv,d]
theorem IW{n:ak}{o:Int}{R:aV}(a:0<=o)(b:n.ar[o.toNat]? =I R)(N:Mem):d8 8 (.slice (n.ar.map aV.row) n.jx) (aa o) N=I (.eD R.row):=by
 have d:decide (0<=o)=U:=be a;have c:(n.ar.map aV.row)[o.toNat]? =I R.row:=by rw[dK,b];rfl
 simp only[d8,d,bi,c];rfl
structure mU(Z8 m:Nat)(N:Mem)(cs:List V):Prop where
 tG:∀(j:Nat)(c:V),cs[j]? =I c->∃(a yl:Nat)(os:List Int),1<a/\c=.an a yl 0 os.length/\N[a]? =I (.b7 (os.map (V.int .i64)) yl)/\0<os.length/\os.length<=m/\∀o∈os,0<=o/\o<Z8
 tD:∀(i j a yl Yh b adU oQ:Nat),cs[i]? =I (.an a yl 0 Yh)->cs[j]? =I (.an b adU 0 oQ)->i≠j->a≠b
def mU.cj{i m g:Nat}{N a8:Mem}{e:List V}(h:mU i m N e)(s:m<=g)(q:∀(a:Nat) b d,1<a->N[a]? =I (au.b7 b d)->a8[a]? =I (au.b7 b d)):mU i g a8 e:=
 ⟨λj c p=>by obtain⟨a,d,b,f,k,l,n,r,o⟩:=h.tG j c p;exact⟨a,d,b,f,k,q _ _ _ f l,n,J,o⟩,h.tD⟩
def mU.grow{s m:Nat}{N:Mem}{g:List V}{ver:Nat}(h:mU s m N g)(K:N[1]? =I (.b7 g ver)){j a f:Nat}{d:List Int}(p:g[j]? =I (.an a f 0 d.length))(z:1<a)(y:N[a]? =I (.b7 (d.map (V.int .i64)) f))(L:d.length<=m)(B:∀o∈d,0<=o/\o<s){r:Int}(C:0<=r/\r<s):
 mU s (m+1) ((N.set a (.b7 (d.map (V.int .i64)++[aa r]) (f+1))).set 1 (.b7 (g.set j (.an a (f+1) 0 (d.length+1))) ver)) (g.set j (.an a (f+1) 0 (d.length+1))):=by
 have A:=(az.1 y).1;have u:=(az.1 p).1;refine⟨λi c k=>?_,λi D b x O H Q P l e q=>?_⟩
 . by_cases t:i=j
   . subst t;rw[bY u] at k;cases k;refine⟨a,f+1,d++[r],z,by simp,?_,by simp,by simp;omega,λo n=>?_⟩
     . rw[bo J,bY A,iL];rfl
     . rcases dv.1 n with n|n
       . exact B o n
       . rw[dV.1 n];exact C
   . rw[bo (cA t)] at k;obtain⟨b,x,G,aD,rfl,bA,E,M,F⟩:=h.tG i c k;refine⟨b,x,G,aD,rfl,?_,E,J,F⟩;rw[bo J,bo (h.tD _ _ _ _ _ _ _ _ p k (cA t))];exact bA
 . by_cases v:i=j
   . subst v;rw[bY u] at l;cases l;rw[bo q] at e;exact h.tD _ _ _ _ _ _ _ _ p e q
   . rw[bo (cA v)] at l;by_cases w:D=j
     . subst w;rw[bY u] at e;cases e;exact h.tD _ _ _ _ _ _ _ _ l p q
     . rw[bo (cA w)] at e;exact h.tD _ _ _ _ _ _ _ _ l e q
def mU.new{n m:Nat}{N:Mem}{d:List V}{ver:Nat}(h:mU n m N d)(x:N[1]? =I (.b7 d ver)){r:Int}(E:0<=r/\r<n)(X:au):
 mU n (m+1) ((N++[.b7 [aa r] 0,X]).set 1 (.b7 (d++[.an N.length 0 0 1]) (ver+1))) (d++[.an N.length 0 0 1]):=by
 have y:=(az.1 x).1;have j:∀(i:Nat)(c:V),(d++[.an N.length 0 0 1])[i]? =I c->(d[i]? =I c)∨(i=d.length/\c=.an N.length 0 0 1):=λi c a=>by
  rcases eT i d.length with g|g
  . rw[et g] at a;exact .inl a
  . have B:=(az.1 a).1;simp only[b0,hP] at B;obtain rfl:i=d.length:=J;rw[fH g,hA] at a;cases a;exact .inr ⟨rfl,rfl⟩
 have lt:∀(i b f l:Nat),d[i]? =I (.an b f 0 l)->b<N.length:=λi b f l z=>by obtain⟨u,H,t,aD,e,bA,_⟩:=h.tG i _ z;cases e;exact(az.1 bA).1
 refine⟨λi c a=>?_,λi s b f l u H M A q C=>?_⟩
 . rcases j i c a with a|⟨_,rfl⟩
   . obtain⟨b,f,t,aD,rfl,bA,F,L,G⟩:=h.tG i c a;refine⟨b,f,t,aD,rfl,?_,F,J,G⟩;rw[bo J];exact a0 bA _
   . refine⟨N.length,0,[r],y,rfl,?_,by simp,by simp,λo D=>by rw[dV.1 D];exact E⟩;rw[bo J,fH (bk _),hA];rfl
 . rcases j i _ A with a|⟨K,v⟩
   . rcases j s _ q with k|⟨w,p⟩
     . exact h.tD _ _ _ _ _ _ _ _ a k C
     . cases p;have:=lt _ _ _ _ a;omega
   . cases v;rcases j s _ q with k|⟨w,p⟩
     . have:=lt _ _ _ _ k;omega
     . omega
theorem Jn{f:V->Option V}:∀(l:List V),(∀x∈l,∃y,f x=I y/\y.ia=U)->∃a,eO f l=I a/\fL a=U
 |[],_=>⟨[],rfl,rfl⟩
 |x::l,h=>by obtain⟨y,b,c⟩:=h x (ft ..);obtain⟨a,d,e⟩:=Jn l λz g=>h z (fs _ g);exact⟨y::a,by simp only[eO,b,d],by simp only[fL,c,e,cR]⟩
def mU.pO{p m:Nat}{N:Mem}{d:List V}{ver:Nat}(h:mU p m N d)(g:N[1]? =I (.b7 d ver))(k:Nat):∃x,cY N 0 (k+3) (.an 1 ver 0 d.length)=I (.slice x .bF):=by
 obtain⟨u,i,l⟩:=Jn (f:=cY N 0 (k+2)) d λc n=>by
  obtain⟨j,o⟩:=eb n;obtain⟨a,t,b,aD,rfl,bA,q,r,s⟩:=h.tG j c o;have e:eO (cY N 0 (k+1)) (((b.map (V.int .i64)).drop 0).take b.length)=I (b.map (V.int .i64)):=by rw[hN,eS (by simp)];exact AE (f:=cY N 0 (k+1)) b λ_ _=>rfl
  exact⟨_,Ae (decide_eq_false (c9 _)) bA (by simp) e (yT b λ_ _=>rfl),rfl⟩
 exact⟨_,Ae (decide_eq_false (c9 _)) g J (by rw[hN,f_];exact i) l⟩
def Nv(n:ak)(aE:n.wf)(ok:di n):bq aH 57 [.agg n.row] (λv=>∃x,v=.tuple [x,v0]):=by
 have O:=YL n aE ok;have H:=aad n ok;have F:=vV ok;refine bB GC ?_;simp only[ak.row] at O H;refine aL @ak.row.eq_1 ?_;refine bG O (ah ?_);refine d2 H ?_;rintro v ⟨l,c,rfl,aO,am⟩;have aA:(l.map d9).length=l.length:=cz _;refine aL aA ?_;refine c6 l (λi p N=>∃d ver,p=[.ptr 0 0,.an 1 ver 0 d.length,.slice (l.map d9) c,aa l.length,aa i]/\N[0]? =I (.box n.row)/\N[1]? =I (.b7 d ver)/\d.length<=i/\mU n.ar.length i N d) ⟨[],0,rfl,rfl,rfl,bk _,⟨λj c h=>by simp at h,λi j a m aQ b aT aR h=>by simp at h⟩⟩ ?_ ?_;rotate_left
 . rintro p N ⟨d,ver,rfl,u,k,ay,q⟩;obtain⟨x,aI⟩:=q.pO k 16;refine aL @bV ?_;rw[aX,uh];show hC ((eO (cY N 0 19) [.an 1 ver 0 d.length,v0]).map .tuple) _;have e:eO (cY N 0 19) [.an 1 ver 0 d.length,v0]=I [.slice x .bF,v0]:=by
    simp only[eO,aI];rfl
   rw[e];exact⟨rfl,⟨_,rfl⟩,rfl,rfl⟩
 rintro i r p N L G s ⟨d,ver,rfl,u,k,ay,q⟩;obtain⟨A,M⟩:=am r (bI L);obtain⟨S,al⟩:∃R,n.ar[r.toNat]? =I R:=⟨n.ar[r.toNat]'J,cG J⟩;have aB:(l.map d9)[i]? =I [aa r]:=by rw[dK,L];rfl
 have aC:=I8 (n:=d.length) k;refine b6 s aB aC ?_;refine c6 d (λj p a8=>p=[.ptr 0 0,.an 1 ver 0 d.length,aa r,.bool ad,.slice (l.map d9) c,aa l.length,aa i,.an 1 ver 0 d.length,aa d.length,aa j]/\a8=N) ⟨rfl,rfl⟩ ?_ ?_
 . rintro j T p a8 y w ax ⟨rfl,rfl⟩;obtain⟨a,m,f,aD,rfl,bA,aP,aJ,P⟩:=q.tG j T y;have em:((f.length:Nat):Int) -1=((f.length -1:Nat):Int):=J;obtain⟨o,K⟩:∃o,f[f.length -1]? =I o:=⟨f[f.length -1]'J,cG J⟩;obtain⟨aK,aS⟩:=P o (bI K);obtain⟨B,D⟩:∃R,n.ar[o.toNat]? =I R:=⟨n.ar[o.toNat]'J,cG J⟩;have W:=Al k w (bk _);have X:=Je k y;have Y:=I8 (n:=f.length) bA;have Z:=Al (i:=f.length -1) bA J (by simp:f.length<=(f.map (V.int .i64)).length);have ab:=Je (i:=f.length -1) (x:=aa o) bA (by rw[dK,K];rfl);have ae:=IW A al a8;have af:=IW aK D a8;have E:=Xl B S (by have:=(F.len B (bI D)).2;omega);have C:=u;simp only[ak.row] at C;simp only[aV.row] at E;refine od ax W X Y em Z ab C ae af @aV.row.eq_1 ?_;refine d2 E ?_;rintro v ⟨t,rfl⟩;refine ah ?_;apply cU<;>intro g
   . refine ah ?_;exact bE w ⟨rfl,rfl⟩
   have aN:=(az.1 bA).1;have aj:cw ad 1 8 (.an a m 0 f.length) (.slice [[aa r]] .full) a8=I (.an a (m+1) 0 (f.length+1),a8.set a (.b7 (f.map (V.int .i64)++[aa r]) (m+1))):=by have s:decide ((f.length+1)*(2*8)<=2^48)=U:=bR;simp only[cw,dg,dP,hP,beq_self_eq_true,bi,eU,bA,cz,s,cR]
   have Q:(a8.set a (.b7 (f.map (V.int .i64)++[aa r]) (m+1)))[1]? =I (.b7 d ver):=by rw[bo J];exact k
   have ai:=Al Q w (bk _);have av:decide (j<d.length)=U:=be w;have aw:=q.grow k y aD bA aJ P ⟨A,M⟩;have z:(d.set j (.an a (m+1) 0 (f.length+1))).length=d.length:=cW;refine d0 aj ai Q av ?_;refine bE G ⟨d.set j (.an a (m+1) 0 (f.length+1)),ver,by rw[z];rfl,?_,?_,J,aw⟩
   . rw[bo J,bo J];exact u
   . exact bY (by rw[cW];exact(az.1 k).1)
 . rintro p a8 ⟨rfl,rfl⟩;refine aL @bV ?_;have aM:=(az.1 k).1;have ap:oF [v0] 1 [(0,1,aa r)] a8=I (.an a8.length 0 0 1,a8++[.b7 [aa r] 0]):=rfl;have aq:oF [.slice [] .nil] 1 [(0,1,.an a8.length 0 0 1)] (a8++[.b7 [aa r] 0])=I (.an (a8.length+1) 0 0 1,a8++[.b7 [aa r] 0,.b7 [.an a8.length 0 0 1] 0]):=by
    have:oF [.slice [] .nil] 1 [(0,1,.an a8.length 0 0 1)] (a8++[.b7 [aa r] 0])=I (.an (a8++[au.b7 [aa r] 0]).length 0 0 1,(a8++[.b7 [aa r] 0])++[.b7 [.an a8.length 0 0 1] 0]):=rfl;rw[this];simp
   have aG:(a8++[au.b7 [aa r] 0,.b7 [.an a8.length 0 0 1] 0])[a8.length+1]? =I (.b7 [.an a8.length 0 0 1] 0):=by rw[fW];rfl
   have ao:cw ad 1 24 (.an 1 ver 0 d.length) (.an (a8.length+1) 0 0 1) (a8++[.b7 [aa r] 0,.b7 [.an a8.length 0 0 1] 0])=I (.an 1 (ver+1) 0 (d.length+1),List.set (a8++[au.b7 [V.int .i64 r] 0,au.b7 [V.an a8.length 0 0 1] 0]) 1 (au.b7 (d++[V.an a8.length 0 0 1]) (ver+1))):=by have s:decide ((d.length+1)*(2*24)<=2^48)=U:=bR;simp only[cw,dg,aG,vH,beq_self_eq_true,V.gU,cR,bi,uO,a0 k,s]
   have aF:=q.new k ⟨A,M⟩ (.b7 [.an a8.length 0 0 1] 0);have z:(d++[V.an a8.length 0 0 1]).length=d.length+1:=by simp
   refine b6 ap aq ao ?_;refine bE G ⟨d++[.an a8.length 0 0 1],ver+1,by rw[z];rfl,?_,?_,J,aF⟩
   . rw[bo J];exact a0 u _
   . exact bY (by rw[b0];omega)
structure eF where
 P:Nat->co
 R:Nat->fK
 B:List (a7×Int)
 fB:Bool
def m9(p:co):List V:=[aa p.aj,aa p.rd,aa p.cn,aa p.fa,aa p.dl]
def f1(n:Nat)(P:Nat->co):List (List V):=f7 n λi=>m9 (P i)
def LA(n d:Nat)(P:Nat->co)(p:co):(f1 n P).set d (m9 p)=f1 n (cb P d p):=by
 rw[f1,v2];refine uq λi _=>?_;by_cases h:i=d
 . subst h;simp only[fq]
 . simp only[hy _ _ h]
def tW(x:a7×Int):List V:=[.bool x.1.bl,aa x.1.run,aa x.1.cM,aa x.1.ct,aa x.1.src,aa x.1.dst,aa x.1.aR,aa x.1.aQ,.bool x.1.aT,aa x.2]
def eZ(n:ak)(q:aG)(a c d e:V)(b:Bool):au:=.box [.slice (n.aB.map Stop.row) n.ij,.slice (n.ey.map ec.row) n.rc,.slice (n.ar.map aV.row) n.jx,.slice (n.bj.map b1.row) n.lc,.slice (n.bw.map bb.row) n.la,
 .slice (n.bQ.bU.map cv.row) n.bQ.tag,aa n.bQ.hG,aa n.bQ.e4,aa n.bQ.kf,
 aa q.src,aa q.dst,aa q.aM,.bool q.hE,aa q.aY,aa q.bD,.bool q.bH,.bool q.na,aa q.dn,.bool q.hc,a,c,d,e,.bool b]
def gA(f:Nat)(M a:Mem):Prop:=∀(j:Nat)(B:au),M[j]? =I B->j≠f->(∀R v z,B≠.aj 10 R v z/\B≠.aj 5 R v z/\B≠.aj 3 R v z)->a[j]? =I B
def gA.refl(f:Nat)(M:Mem):gA f M M:=λ_ _ h _ _=>h
def gA.trans{f:Nat}{M c d:Mem}(a:gA f M c)(b:gA f c d):gA f M d:=λj B h e g=>b j B (a j B h e g) e g
def gA.a1(f:Nat)(M L:Mem):gA f M (M++L):=λ_ _ h _ _=>a0 h L
structure eJ(n:ak)(q:aG)(f bp vp br vr:Nat)(rv xv:V)(S:eF)(M:Mem):Prop where
 box:∃lv,M[f]? =I (eZ n q lv (.an bp vp 0 n.aB.length) rv xv S.fB)/\hp 10 M lv (S.B.map tW)
 pl:M[bp]? =I (.aj 5 (f1 n.aB.length S.P) vp 0)
 run:0<n.ar.length->rv=.an br vr 0 n.ar.length/\M[br]? =I (.aj 3 (dR n.ar.length S.R) vr 0)
 out:∃g,ly n g M xv
def eJ.a1{n:ak}{q:aG}{f a e b i:Nat}{d j:V}{S:eF}{M:Mem}(h:eJ n q f a e b i d j S M)(L:Mem):eJ n q f a e b i d j S (M++L):=by obtain⟨m,aD,ba⟩:=h.box;obtain⟨g,l⟩:=h.out;exact⟨⟨m,a0 aD L,ba.a1 L⟩,a0 h.pl L,λc=>⟨(h.run c).1,a0 (h.run c).2 L⟩,g,l.sq λ_ _ _ _ k=>a0 k L⟩
def eJ.lt{n:ak}{q:aG}{f a d b g:Nat}{c i:V}{S:eF}{M:Mem}(h:eJ n q f a d b g c i S M):f<M.length/\a<M.length/\f≠a:=by obtain⟨j,aD,_⟩:=h.box;exact⟨(az.1 aD).1,(az.1 h.pl).1,(λe=>by rw[e,h.pl] at aD;cases aD)⟩
def eJ.vU{n:ak}{q:aG}{f b d k o:Nat}{m p:V}{S:eF}{M:Mem}(h:eJ n q f b d k o m p S M)(P:Nat->co):eJ n q f b d k o m p {S with P:=P} (M.set b (.aj 5 (f1 n.aB.length P) d 0))/\gA f M (M.set b (.aj 5 (f1 n.aB.length P) d 0)):=by
 have s:=h.lt.2.1;have c:∀(j:Nat) B,M[j]? =I B->(∀R v z,B≠.aj 5 R v z)->(M.set b (.aj 5 (f1 n.aB.length P) d 0))[j]? =I B:=λj B a i=>by rw[bo λe=>by subst e;rw[h.pl] at a;cases a;exact i _ _ _ rfl];exact a
 obtain⟨u,aD,ba⟩:=h.box;obtain⟨g,t⟩:=h.out;exact⟨⟨⟨u,c _ _ aD (λ_ _ _ e=>by cases e),ba.cj λj ver a=>c _ _ a (λ_ _ _ e=>by cases e)⟩,bY s,λl=>⟨(h.run l).1,c _ _ (h.run l).2 (λ_ _ _ e=>by cases e)⟩,g,t.sq λj B _ i a=>c _ _ a λ_ _ _ e=>by rw[e] at i;rcases i with⟨_,_,e⟩|⟨_,_,e⟩<;>cases e⟩,λj B a _ r=>c j B a λR v z=>(r R v z).2.1⟩
def eJ.Bx{n:ak}{q:aG}{f k p b d:Nat}{o r:V}{S:eF}{M:Mem}(h:eJ n q f k p b d o r S M)(l:0<n.ar.length)(R:Nat->fK):eJ n q f k p b d o r {S with R:=R} (M.set b (.aj 3 (dR n.ar.length R) d 0))/\gA f M (M.set b (.aj 3 (dR n.ar.length R) d 0)):=by
 have m:=(h.run l).2;have t:=(az.1 m).1;have c:∀(j:Nat) B,M[j]? =I B->(∀R v z,B≠.aj 3 R v z)->(M.set b (.aj 3 (dR n.ar.length R) d 0))[j]? =I B:=λj B a i=>by rw[bo λe=>by subst e;rw[m] at a;cases a;exact i _ _ _ rfl];exact a
 obtain⟨w,aD,ba⟩:=h.box;obtain⟨g,u⟩:=h.out;exact⟨⟨⟨w,c _ _ aD (λ_ _ _ e=>by cases e),ba.cj λj ver a=>c _ _ a (λ_ _ _ e=>by cases e)⟩,c _ _ h.pl (λ_ _ _ e=>by cases e),λ_=>⟨(h.run l).1,bY t⟩,g,u.sq λj B _ i a=>c _ _ a λ_ _ _ e=>by rw[e] at i;rcases i with⟨_,_,e⟩|⟨_,_,e⟩<;>cases e⟩,λj B a _ s=>c j B a λR v z=>(s R v z).2.2⟩
def eJ.Bw{n:ak}{q:aG}{f b d o t:Nat}{c i:V}{S:eF}{M:Mem}(h:eJ n q f b d o t c i S M){lv:V}(r:M[f]? =I (eZ n q lv (.an b d 0 n.aB.length) c i S.fB))(m:Bool):
 eJ n q f b d o t c i {S with fB:=m} (M.set f (eZ n q lv (.an b d 0 n.aB.length) c i m))/\gA f M (M.set f (eZ n q lv (.an b d 0 n.aB.length) c i m)):=by
 have w:=h.lt.1;have l:∀(j:Nat) B,M[j]? =I B->(∀u,B≠.box u)->(M.set f (eZ n q lv (.an b d 0 n.aB.length) c i m))[j]? =I B:=λj B a k=>by rw[bo λe=>by subst e;rw[r] at a;cases a;exact k _ rfl];exact a
 obtain⟨s,aD,ba⟩:=h.box;have e:s=lv:=by rw[r] at aD;simp only[eZ,aC,au.box.injEq,List.cons.injEq] at aD;exact aD.2.2.2.2.2.2.2.2.2.2.2.2.2.2.2.2.2.2.2.1.symm
 subst e;obtain⟨g,x⟩:=h.out;exact⟨⟨⟨s,bY w,ba.cj λj ver a=>l _ _ a (λ_ e=>by cases e)⟩,l _ _ h.pl (λ_ e=>by cases e),λp=>⟨(h.run p).1,l _ _ (h.run p).2 (λ_ e=>by cases e)⟩,g,x.sq λj B _ k a=>l _ _ a λ_ e=>by rw[e] at k;rcases k with⟨_,_,e⟩|⟨_,_,e⟩<;>cases e⟩,λj B a v _=>by rw[bo (cA v)];exact a⟩
def kZ(S:eF)(d:Nat)(a r l:Int):eF:={S with P:=cb S.P d (fN (S.P d) a r l),fB:=S.fB||decide ((S.P d).aj=-1∨a<(S.P d).aj)||decide ((S.P d).cn=-1∨r<(S.P d).cn)}
def KZ{n:ak}{q:aG}{f a b i j:Nat}{c e:V}{S:eF}{M:Mem}(h:eJ n q f a b i j c e S M){g:V}(s:M[f]? =I (eZ n q g (.an a b 0 n.aB.length) c e S.fB)){d:Nat}(p:co)(X:au)(r:X=.aj 5 ((f1 n.aB.length S.P).set d (m9 p)) b 0):
 eJ n q f a b i j c e {S with P:=cb S.P d p,fB:=U} ((M.set a X).set f (eZ n q g (.an a b 0 n.aB.length) c e U))/\gA f M ((M.set a X).set f (eZ n q g (.an a b 0 n.aB.length) c e U)):=by
 subst r;rw[LA];obtain⟨k,l⟩:=h.vU (cb S.P d p);obtain⟨m,o⟩:=k.Bw (lv:=g) (by rw[bo (cA h.lt.2.2)];exact s) U;exact⟨m,l.trans o⟩
def K0{n:ak}{q:aG}{f a b u z:Nat}{p t:V}{S:eF}{M:Mem}(h:eJ n q f a b u z p t S M){d:Nat}(v:d<n.aB.length)(r l:Int)(Q:Exit->av->Mem->Prop)(s:av)
 (i:aE s 0=.ptr f 0)(j:aE s 3=aa r)(k:aE s 4=aa l)(g:aE s 10=.df a b d 0)
 (al:∀s N,gA f M N->eJ n q f a b u z p t {S with P:=cb S.P d (jX (S.P d) r l),fB:=S.fB||decide ((S.P d).cn=-1∨r<(S.P d).cn)} N->Q .normal s N):ck aH zb Q s M:=by
 obtain⟨H,aD,_⟩:=id h.box;have o:=h.pl;have F:=h.lt.2.1;have K:=h.lt.1;have G:=h.lt.2.2;have m:(f1 n.aB.length S.P)[d]? =I [aa (S.P d).aj,aa (S.P d).rd,aa (S.P d).cn,aa (S.P d).fa,aa (S.P d).dl]:=g8 _ v;have y:∀B:au,(M.set a B)[a]? =I B:=λB=>bY F;have bP:∀x:List V,((f1 n.aB.length S.P).set d x)[d]? =I x:=λx=>bY (by rw[f1,ep];exact v);have w:∀B:au,(M.set a B)[f]? =M[f]? :=λB=>bo (cA G);have io:(S.P d).cn=-1∨r<(S.P d).cn->∀s,Q .normal s ((M.set a (.aj 5 ((f1 n.aB.length S.P).set d [aa (S.P d).aj,aa (S.P d).rd,aa r,aa (S.P d).fa,aa l]) b 0)).set f (eZ n q H (.an a b 0 n.aB.length) p t U)):=λc s=>by obtain⟨A,C⟩:=KZ h aD (d:=d) (jX (S.P d) r l) (.aj 5 ((f1 n.aB.length S.P).set d [aa (S.P d).aj,aa (S.P d).rd,aa r,aa (S.P d).fa,aa l]) b 0) (by simp only[jX,m9,aF c]);refine al s _ C ?_;rw[be c,Bool.or_true];exact A
 simp only[eZ] at aD io;refine rx (aX 15) @g7 o m g ?_;apply aW<;>intro D
 . simp-implicitDefEqProofs (disch:=omega) only[go_sem,b5,g7,o,m,i,j,k,g,y,bP,h3,w,aD];exact io (.inl D) _
 refine mI @g7 o m i j k g ?_;apply aW<;>intro E
 . simp-implicitDefEqProofs (disch:=omega) only[go_sem,b5,g7,o,m,i,j,k,g,y,bP,h3,w,aD];exact io (.inr E) _
 . refine d0 i j k g ?_;refine al _ _ (.refl _ _) ?_;have e:jX (S.P d) r l=S.P d:=by rw[jX,ax J,ax J]
   rw[e,yk,h8,Bool.or_false];exact h
def Bs{n:ak}{q:aG}{f b g w y:Nat}{t u:V}{S:eF}{M:Mem}(h:eJ n q f b g w y t u S M){d:Int}(Y:0<=d)(X:d<n.aB.length)(a r l:Int):
 bx aH 115 [.ptr f 0,aa d,aa a,aa r,aa l] M (λv N=>v=.tuple []/\gA f M N/\eJ n q f b g w y t u (kZ S d.toNat a r l) N):=by
 obtain⟨d,rfl⟩:∃x:Nat,d=x:=⟨d.toNat,J⟩;rw[dU];have j:d<n.aB.length:=J;obtain⟨W,aD,_⟩:=id h.box;have k:=h.pl;have Q:=h.lt.2.1;have R:=h.lt.2.2;have o:(f1 n.aB.length S.P)[d]? =I [aa (S.P d).aj,aa (S.P d).rd,aa (S.P d).cn,aa (S.P d).fa,aa (S.P d).dl]:=g8 _ j;have T:=e2 (n:=n.aB.length) (i:=d) k j (by rw[f1,ep];exact bk _);have C:∀B:au,(M.set b B)[b]? =I B:=λB=>bY Q;have bP:∀x:List V,((f1 n.aB.length S.P).set d x)[d]? =I x:=λx=>bY (by rw[f1,ep];exact j);have A:∀B:au,(M.set b B)[f]? =M[f]? :=λB=>bo (cA R);refine dX HN ?_;simp only[dN];have io:∀s:av,(S.P d).aj=-1∨a<(S.P d).aj->aE s 0=.ptr f 0->aE s 3=aa r->aE s 4=aa l->aE s 10=.df b g d 0->ck aH zb (iT Ab.results (k1 λv N=>v=.tuple []/\gA f M N/\eJ n q f b g w y t u (kZ S d a r l) N)) s
  ((M.set b (.aj 5 ((f1 n.aB.length S.P).set d [aa a,aa (S.P d).rd,aa (S.P d).cn,aa l,aa (S.P d).dl]) g 0)).set f (eZ n q W (.an b g 0 n.aB.length) t u U)):=λs c F L O H=>by
  obtain⟨D,E⟩:=KZ h aD (d:=d) (sl (S.P d) a l) (.aj 5 ((f1 n.aB.length S.P).set d [aa a,aa (S.P d).rd,aa (S.P d).cn,aa l,aa (S.P d).dl]) g 0) (by simp only[sl,m9,aF c]);refine K0 D j r l _ _ F L O H λs N bh m=>⟨rfl,E.trans bh,?_⟩;have e:cb (cb S.P d (sl (S.P d) a l)) d (jX (sl (S.P d) a l) r l)=cb S.P d (fN (S.P d) a r l):=by
   funext i;by_cases z:i=d
   . subst z;simp only[fq,jX,sl,fN,aF c]
   . simp only[hy _ _ z]
  simp only[fq,e,Bool.true_or] at m;rw[kZ,be c,Bool.or_true,Bool.true_or];exact m
 simp only[eZ] at aD io;refine he @b5 @g7 aD T k o ?_;apply aW<;>intro G
 . refine og @b5 @g7 k o C bP @h3.{0} A aD ?_;exact io _ (.inl G) rfl rfl rfl rfl
 refine b6 @g7 k o ?_;apply aW<;>intro K
 . refine og @b5 @g7 k o C bP @h3.{0} A aD ?_;exact io _ (.inr K) rfl rfl rfl rfl
 . refine ah ?_;refine K0 h j r l _ _ rfl rfl rfl rfl λs N bh m=>⟨rfl,bh,?_⟩;have e:jX (S.P d) r l=fN (S.P d) a r l:=by
    rw[jX,fN,ax (c:=(S.P d).aj=-1∨a<(S.P d).aj) J,ax (c:=(S.P d).aj=-1∨a<(S.P d).aj) J]
   rw[kZ,decide_eq_false (p:=(S.P d).aj=-1∨a<(S.P d).aj) J,Bool.or_false,<-e];exact m
def oZ(a:List V)(R:List (List V))(v z:Nat):au.box a≠.aj 10 R v z/\au.box a≠.aj 5 R v z/\au.box a≠.aj 3 R v z:=⟨(by intro e;cases e),(by intro e;cases e),(by intro e;cases e)⟩
def DY{n:ak}{q:aG}{f d l F P:Nat}{k m:V}{S:eF}{M:Mem}(h:eJ n q f d l F P k m S M)(ae:S.B.length<=100000000000)(x:a7)(p:Int):
 bx aH 121 [.ptr f 0,.agg x.row,aa p] M (λv N=>v=aa S.B.length/\gA f M N/\eJ n q f d l F P k m {S with B:=S.B++[(x,p)]} N):=by
 obtain⟨Y,aD,ba⟩:=id h.box;have L:(S.B.map tW).length=S.B.length:=cz _;obtain⟨a,ver,N,D,w,af,Z,ab⟩:=(ba.a1 [.box x.row]).push (r:=tW (x,p)) (bytes:=80) rfl (by rw[L];omega);rw[L] at D;have J:∀(i:Nat)(B:au),(M++[au.box x.row])[i]? =I B->(∀R v z,B≠.aj 10 R v z)->N[i]? =I B:=λi B t b=>Z i B t λe=>by
  subst e;rcases ab with⟨_,rfl⟩|⟨v,_,e⟩
  . have:=(az.1 t).1;omega
  . rw[e] at t;cases t;exact b _ _ _ rfl
 have o:(M++[au.box x.row])[f]? =I (eZ n q Y (.an d l 0 n.aB.length) k m S.fB):=a0 aD _;have s:=J f _ o (λ_ _ _ e=>by cases e);have T:=(az.1 s).1;have H:a≠f:=λe=>by rw[e,s] at w;cases w
 have O:∀B:au,(N.set f B)[f]? =I B:=λB=>bY T;have G:(M++[au.box x.row])[M.length]? =I (.box x.row):=by simp
 have K:eY (.an a ver 0 (S.B.length+1)) (N.set f (eZ n q (.an a ver 0 (S.B.length+1)) (.an d l 0 n.aB.length) k m S.fB))=I (aa ((S.B.length:Int)+1)):=by have:=jZ (n:=S.B.length+1) (by rw[bo (cA H)];exact w:(N.set f (eZ n q (.an a ver 0 (S.B.length+1)) (.an d l 0 n.aB.length) k m S.fB))[a]? =_);rw[Int.natCast_succ] at this;exact this
 have fin:dN aH Aa [.ptr f 0,.agg x.row,aa p] M (λv E=>v=aa S.B.length/\E=N.set f (eZ n q (.an a ver 0 (S.B.length+1)) (.an d l 0 n.aB.length) k m S.fB)):=by simp only[dN];simp only[eZ] at o s K⊢;simp only[a7.row,tW] at D o G;refine oe @a7.row.eq_1 @b5 o G D s O K ?_;omega
 refine bx.mono (dX HI fin) λv E W=>?_;obtain⟨rfl,rfl⟩:=W;have u:∀(j:Nat)(B:au),M[j]? =I B->j≠f->(∀R v z,B≠.aj 10 R v z)->(N.set f (eZ n q (.an a ver 0 (S.B.length+1)) (.an d l 0 n.aB.length) k m S.fB))[j]? =I B:=λj B c A b=>by rw[bo (cA A)];exact J j B (a0 c _) b
 have C:∀(j:Nat)(B:au),M[j]? =I B->(∀Q,B≠.box Q)->j≠f:=λj B c b e=>by rw[e,aD] at c;cases c;exact b _ rfl
 obtain⟨g,X⟩:=h.out;refine⟨rfl,λj B c A b=>u j B c A λR v z=>(b R v z).1,⟨_,O _,.inr ⟨a,ver,by simp,?_,by simp⟩⟩,u _ _ h.pl (C _ _ h.pl λ_ e=>by cases e) (λ_ _ _ e=>by cases e),λy=>⟨(h.run y).1,u _ _ (h.run y).2 (C _ _ (h.run y).2 λ_ e=>by cases e) (λ_ _ _ e=>by cases e)⟩,g,X.sq λj B _ b c=>u _ _ c (C _ _ c λ_ e=>?_) λ_ _ _ e=>?_⟩
 . rw[bo (cA H),w,iL];rfl
 . rw[e] at b;rcases b with⟨_,_,e⟩|⟨_,_,e⟩<;>cases e
 . rw[e] at b;rcases b with⟨_,_,e⟩|⟨_,_,e⟩<;>cases e
def lS(n:ak)(C:List Int)(S:eF):Nat:=q9 C n.aB.length S.P+jS n.ar.length (λi=>(S.R i).cl)
structure h6(n:ak)(C:List Int)(T:Int)(S eB:eF):Prop where
 st:nK n T S.P eB.P (λi=>(S.R i).cl) (λi=>(eB.R i).cl)
 vD:S.fB=U->eB.fB=U
 same:eB.fB=ad->pt S.P eB.P (λi=>(S.R i).cl) (λi=>(eB.R i).cl)
 w:lS n C eB<=lS n C S
 lt:eB.fB=U->S.fB=U∨lS n C eB<lS n C S
 c4:∃X,eB.B=S.B++X
def h6.refl(n:ak)(C:List Int)(T:Int)(S:eF):h6 n C T S S:=⟨.refl _ _ _,id,λ_=>.refl _ _,bk _,.inl,[],by simp⟩
def h6.trans{n:ak}{C:List Int}{T:Int}{S d f:eF}(a:h6 n C T S d)(b:h6 n C T d f):h6 n C T S f:=by
 refine⟨a.st.trans b.st,λh=>b.vD (a.vD h),λh=>?_,fJ b.w a.w,λh=>?_,?_⟩
 . have c:d.fB=ad:=by
    cases j:d.fB
    . rfl
    . rw[b.vD j] at h;cases h
   exact(a.same c).trans (b.same h)
 . rcases b.lt h with c|c
   . rcases a.lt c with e|e
     . exact .inl e
     . exact .inr (Nat.lt_of_le_of_lt b.w e)
   . exact .inr (Nat.lt_of_lt_of_le c a.w)
 . obtain⟨X,g⟩:=a.c4;obtain⟨Y,i⟩:=b.c4;exact⟨X++Y,by rw[i,g,cS]⟩
structure hb(n:ak)(q:aG)(C:List Int)(S:eF):Prop where
 snd:kP (rS n q C S.B) (rT n q C S.B) S.P
 run:∀i,(S.R i).cl≠-1->i<n.ar.length/\tq n q S.B i (S.R i)
def hb.c4{n:ak}{q:aG}{C:List Int}{S:eF}(h:hb n q C S)(X:List (a7×Int)):hb n q C {S with B:=S.B++X}:=⟨acN h.snd X,λi a=>⟨(h.run i a).1,(h.run i a).2.a1 X⟩⟩
def I5(n:ak)(C:List Int)(T:Int)(S:eF)(X:List (a7×Int)):h6 n C T S {S with B:=S.B++X}:=⟨.refl _ _ _,id,λ_=>.refl _ _,bk _,.inl,X,rfl⟩
def Am{n:ak}{q:aG}{C:List Int}{T:Int}(S:eF){d:Nat}(g:d<n.aB.length){a r l:Int}(b:0<=a)(c:0<=r)(f:a∈C)(i:r∈C)(p:T<=r):
 h6 n C T S (kZ S d a r l)/\(∀s,((kZ S d a r l).P s).rd=(S.P s).rd)/\cD ((kZ S d a r l).P d).aj a/\cD ((kZ S d a r l).P d).cn r/\(hb n q C S->rS n q C S.B d a l->rT n q C S.B d r l->hb n q C (kZ S d a r l)):=by
 obtain⟨j,k,t,u,v⟩:=vu S.P d (l:=l) b c;refine⟨⟨⟨j,λs=>by rw[show((kZ S d a r l).P s).rd=(S.P s).rd from k s];exact .refl _,λ_=>.refl _,λs=>?_,λ_=>.inl rfl⟩,λh=>?_,λh=>?_,?_,λh=>?_,[],by simp[kZ]⟩,k,t,u,λae m o=>⟨v _ _ ae.snd m o,ae.run⟩⟩
 . show(cb S.P d (fN (S.P d) a r l) s).cn=_∨_<=(cb S.P d (fN (S.P d) a r l) s).cn;by_cases e:s=d
   . subst e;rw[fq];simp only[fN];split
     . exact .inr p
     . exact .inl rfl
   . rw[hy _ _ e];exact .inl rfl
 . show(S.fB||_||_)=U;rw[h];rfl
 . simp only[kZ,Bool.or_eq_false_iff,decide_eq_false_iff_not] at h;have e:fN (S.P d) a r l=S.P d:=by
    simp only[fN,ax h.1.2,ax h.2]
   show pt S.P (cb S.P d (fN (S.P d) a r l)) _ _;rw[e,yk];exact .refl _ _
 . exact Nat.add_le_add_right (Kd j) _
 . simp only[kZ,ln,cZ] at h;rcases h with(h|h)|h
   . exact .inl h
   . exact .inr (Nat.add_lt_add_right (Ke g b c f i (.inl h)) _)
   . exact .inr (Nat.add_lt_add_right (Ke g b c f i (.inr h)) _)
def D1{n:ak}(F:jH n){q q0:aG}{C:List Int}{f K ae O af:Nat}{ab al:V}{S:eF}{M:Mem}(H:eJ n q f K ae O af ab al S M)(aZ:S.B.length+60<=100000000000)(s t o T:Int)(a4:0<=t/\t<=3155932800)(aX:T<=t)(aO:hb n q0 C S){r:Nat}(aP:hn S.B o r)
 (aA:∀p∈n.bw,p.src=s->t+p.bs<=3155932800->fU n q0 r p.dst (t+p.bs)/\(∀i b R B,de n i b R B->B.cM=U->B.stop=p.dst->t+p.bs<=B.aR->eg n q0 (r+1) i b)/\t+p.bs∈C):
 bx aH 114 [.ptr f 0,aa s,aa t,aa o] M (λv N=>v=.tuple []/\gA f M N/\∃c,eJ n q f K ae O af ab al c N/\h6 n C T S c/\hb n q0 C c/\c.R=S.R/\(∀s,(c.P s).rd=(S.P s).rd)/\c.B.length<=S.B.length+60/\ma n c.P s t):=by
 have a0:=F.JQ;obtain⟨a5,ao,aW⟩:=H.box;refine dX HR ?_;simp only[eZ] at ao;simp only[dN];refine bN @b5 ao ?_;refine c6 n.bw (λi ai N=>∃c,ai=[.ptr f 0,aa s,aa t,aa o,.slice (n.bw.map bb.row) n.la,aa n.bw.length,aa i]/\gA f M N/\eJ n q f K ae O af ab al c N/\h6 n C T S c/\hb n q0 C c/\c.R=S.R/\(∀s,(c.P s).rd=(S.P s).rd)/\c.B.length<=S.B.length+i/\
  ∀(j:Nat)(p:bb),j<i->n.bw[j]? =I p->p.src=s->t+p.bs<=3155932800->cD (c.P p.dst.toNat).aj (t+p.bs)/\cD (c.P p.dst.toNat).cn (t+p.bs)) ⟨S,rfl,.refl _ _,H,.refl _ _ _ _,aO,rfl,λ_=>rfl,bk _,λ_ _ h=>aJ h (c9 _)⟩ ?_ ?_;rotate_left
 . rintro ai N ⟨c,rfl,bh,u,e,A,z,D,aB,G⟩;refine aL @bV ?_;refine⟨bh,c,u,e,A,z,D,J,λp k a b=>?_⟩;obtain⟨i,w⟩:=eb k;exact G i p (az.1 w).1 w a b
 rintro i p ai N k w aK ⟨c,rfl,bh,u,e,A,z,D,aB,G⟩;have Q:=λL=>cE N L;have aw:∀(B X:au)(L:Mem),(N++B::L).set N.length X=N++X::L:=λB X L=>hZ N B X L;obtain⟨⟨Y,aM⟩,_,a2,a3⟩:=F.bw p (bI k);have aq:¬(p.src=s/\t+p.bs<=3155932800)->∀(j:Nat)(p:bb),j<i+1->n.bw[j]? =I p->p.src=s->t+p.bs<=3155932800->cD (c.P p.dst.toNat).aj (t+p.bs)/\cD (c.P p.dst.toNat).cn (t+p.bs):=λh j Z aN m a b=>by
  rcases eT j i with g|g
  . exact G j Z g m a b
  . obtain rfl:j=i:=J;rw[k] at m;cases m;exact aJ ⟨a,b⟩ h
 refine es aK k @bb.row.eq_1 Q aw ?_;apply cF<;>intro an
 . refine ah ?_;exact bE w ⟨c,rfl,bh.trans (.a1 _ _ _),u.a1 _,e,A,z,D,J,aq λh=>an h.1⟩
 refine aL Q ?_;apply cF<;>intro W
 . refine ah ?_;exact bE w ⟨c,rfl,bh.trans (.a1 _ _ _),u.a1 _,e,A,z,D,J,aq λh=>W h.2⟩
 refine aL Q ?_;refine ch (DY (u.a1 [.box [aa p.src,aa p.dst,aa p.bs,.bool p.bH]]) J ⟨ad,0,0,0,s,p.dst,t,t+p.bs,ad⟩ o) ?_;rintro v a8 ⟨rfl,am,aD⟩;have aY:=u.lt.1;have ax:a8[N.length]? =I (.box [aa p.src,aa p.dst,aa p.bs,.bool p.bH]):=am _ _ (by rw[cE];rfl) J (oZ _);refine aL ax ?_;refine ch (Bs aD Y aM (t+p.bs) (t+p.bs) c.B.length) ?_;rintro v aV ⟨rfl,ay,aE⟩;refine ah ?_;obtain⟨ar,av,E⟩:=aA p (bI k) an W;obtain⟨X,aF⟩:=e.c4;have ap:hn (c.B++[(⟨ad,0,0,0,s,p.dst,t,t+p.bs,ad⟩,o)]) c.B.length r:=by have:=hn.new (x:=⟨ad,0,0,0,s,p.dst,t,t+p.bs,ad⟩) (by rw[aF];exact aP.a1 X:hn c.B o r);exact this
 obtain⟨hW,aQ,aS,aT,aU⟩:=Am (n:=n) (q:=q0) (C:=C) (T:=T) {c with B:=c.B++[(⟨ad,0,0,0,s,p.dst,t,t+p.bs,ad⟩,o)]} (d:=p.dst.toNat) J (l:=c.B.length) J J E E (by omega:T<=t+p.bs);refine bE w ⟨_,rfl,(bh.trans (.a1 _ _ _)).trans (am.trans ay),aE,e.trans ((I5 n C T c _).trans hW),aU (A.c4 _) ⟨E,J,W,r,ap,?_⟩ ⟨E,J,J,r,ap,λi b R B aC aI e=>?_⟩,z,λs=>(aQ s).trans (D s),?_,λj Z aN m a b=>?_⟩
 . rw[fr Y];exact ar
 . rw[fr Y] at e;exact av i b R B aC aI e
 . simp only[kZ,b0,hP];omega
 . rcases eT j i with g|g
   . obtain⟨x,y⟩:=G j Z g m a b;exact⟨(hW.st.imp _).1.fy x,(hW.st.imp _).2.fy y⟩
   . obtain rfl:j=i:=J;rw[k] at m;cases m;exact⟨aS,aT⟩
def yw(n:ak)(i:Nat)(b:fK)(S a:eF):Prop:=(∃r,n.ar[i]? =I r/\r.ds=ad/\((S.R i).cl=-1∨b.cl<(S.R i).cl)/\a={S with R:=cb S.R i b,fB:=U})∨(a=S/\∃r,n.ar[i]? =I r/\(r.ds=U∨((S.R i).cl≠-1/\(S.R i).cl<=b.cl)))
def DZ{n:ak}{q:aG}{f l u d k:Nat}{F w:V}{S:eF}{M:Mem}(H:eJ n q f l u d k F w S M){i:Nat}(s:i<n.ar.length)(b:fK):
 bx aH 120 [.ptr f 0,aa i,.agg (d1 b)] M (λv N=>v=.tuple []/\gA f M N/\∃z,eJ n q f l u d k F w z N/\yw n i b S z):=by
 obtain⟨r,j⟩:∃r,n.ar[i]? =I r:=⟨n.ar[i],cG s⟩;have h:0<n.ar.length:=J;obtain rfl:=(H.run h).1;have c:=H.a1 [.box (d1 b)];obtain⟨L,aD,ba⟩:=c.box;have a:=(c.run h).2;have p:(dR n.ar.length S.R)[i]? =I [aa (S.R i).cl,aa (S.R i).prev,.bool (S.R i).aT]:=g8 _ s;have D:=e2 (n:=n.ar.length) (i:=i) a s (by rw[dR,ep];exact bk _);have m:(M++[au.box (d1 b)])[M.length]? =I (.box (d1 b)):=by simp
 have P:=H.lt.1;have O:=(az.1 (H.run h).2).1;have K:d≠f:=λe=>by rw[e,aD] at a;cases a
 obtain⟨x,o⟩:=c.Bx h (cb S.R i b);rw[<-BV] at x o;have t:((M++[au.box (d1 b)]).set d (au.aj 3 ((dR n.ar.length S.R).set i (d1 b)) k 0))[f]? =I (eZ n q L (.an l u 0 n.aB.length) (.an d k 0 n.ar.length) w S.fB):=by rw[bo K];exact aD
 obtain⟨y,A⟩:=x.Bw t U;have g:gA f M (M++[.box (d1 b)]):=.a1 _ _ _;refine dX HK ?_;simp only[eZ,d1] at aD t y A o;simp only[d1] at m D a c g;simp only[dN];refine he @d1.eq_1 @b5 aD j @aV.row.eq_1 D ?_;apply dt<;>intro B
 . refine ah ?_;exact⟨g,S,c,.inr ⟨rfl,r,j,.inl B⟩⟩
 refine d0 @d1.eq_1 @g7 a p ?_;apply aW<;>intro C;rotate_left;refine es @d1.eq_1 @g7 m a p ?_;apply aW<;>intro G
 . refine ah ?_;exact⟨g,S,c,.inr ⟨rfl,r,j,.inr ⟨C,G⟩⟩⟩
 have E:(S.R i).cl=-1∨b.cl<(S.R i).cl:=.inr J;rotate_left;have E:(S.R i).cl=-1∨b.cl<(S.R i).cl:=.inl C;all_goals
  refine mI @d1.eq_1 @b5 @g7 m a p t ?_;exact⟨g.trans (o.trans A),_,y,.inl ⟨r,j,B,E,rfl⟩⟩
def yw.step{n:ak}{q:aG}{C:List Int}{T:Int}{S d:eF}{i c:Nat}{b:fK}(p:i<n.ar.length)(f:b.cl=(c:Int))(v:c<6)(h:yw n i b S d)(u:∀r,n.ar[i]? =I r->∃x,r.aO[c]? =I x/\T<=x.aR):
 h6 n C T S d/\d.P=S.P/\d.B=S.B/\(∀r,n.ar[i]? =I r->r.ds=ad->cD (d.R i).cl c)/\(hb n q C S->(∀r,n.ar[i]? =I r->r.ds=ad->tq n q S.B i b)->hb n q C d):=by
 rcases h with⟨r,g,l,w,rfl⟩|⟨rfl,r,g,a⟩
 . have s:(λj=>(S.R j).cl) i=-1∨(c:Int)<(λj=>(S.R j).cl) i:=by rw[<-f];exact w
   have o:=KY (R:=λj=>(S.R j).cl) p v s;rw[<-f,<-v3] at o;have y:∀j,gi (cb S.R i b j).cl (S.R j).cl:=λj=>by have:=Ax (R:=λj=>(S.R j).cl) (by omega:(0:Int)<=c) s j;rw[<-f,<-v3] at this;exact this
   have m:(cb S.R i b i).cl=(c:Int):=by rw[fq,f]
   obtain⟨x,A,D⟩:=u r g;refine⟨⟨⟨.refl _,λ_=>.refl _,y,λ_=>.inl rfl,λj=>?_⟩,λ_=>rfl,λh=>kI h,?_,λ_=>.inr ?_,[],by simp⟩,rfl,rfl,λE _ _=>by show cD (cb S.R i b i).cl c;rw[m];exact⟨J,fS _⟩,λae z=>⟨ae.snd,λj k=>?_⟩⟩
   . show(cb S.R i b j).cl=_∨_;by_cases e:j=i
     . subst e;refine .inr ⟨r,x,g,?_,?_,D⟩
       . show r.aO[(cb S.R j b j).cl.toNat]? =_;rw[m];exact A
       . show 0<=(cb S.R j b j).cl;rw[m];omega
     . rw[hy _ _ e];exact .inl rfl
   . exact Nat.add_le_add_left (Nat.le_of_lt o) _
   . exact Nat.add_lt_add_left o _
   . have k:(cb S.R i b j).cl≠-1:=k;show _/\tq n q S.B j (cb S.R i b j);by_cases e:j=i
     . subst e;rw[fq];exact⟨p,z r g l⟩
     . rw[hy _ _ e] at k⊢;exact ae.run j k
 . refine⟨.refl _ _ _ _,rfl,rfl,λE t l=>?_,λae _=>ae⟩;rw[g] at t;cases t;rcases a with a|a
   . rw[l] at a;cases a
   . rw[f] at a;exact a
def wq(n:ak)(R:Nat->Int)(m:Nat)(e:aZ)(x:b1):Prop:=x.fg=m->∀(S:aV)(c:aZ),n.ar[x.dst.toNat]? =I S->S.aO[x.ea.toNat]? =I c->e.aQ<=c.aR->(x.aT=U∨(e.ct=U/\c.cM=U))->S.ds=ad->cD (R x.dst.toNat) x.ea
def l9.e5{g f:Nat}{M c:Mem}(bh:gA f M c){d:List V}(k:M[f]? =I (.box d)){x:V}{l:List Nat}(h:l9 g M x l):l9 g c x l:=by
 rcases h with h|⟨a,ver,j,i,b⟩
 . exact .inl h
 . exact .inr ⟨a,ver,j,i,bh _ _ b (λe=>by rw[e,k] at b;cases b) λ_ _ _=>⟨(by intro e;cases e),(by intro e;cases e),(by intro e;cases e)⟩⟩
def RU{n:ak}(F:jH n){q W:aG}{C:List Int}{f ao aC ap aE:Nat}{aB bm:V}{S:eF}{M:Mem}(H:eJ n q f ao aC ap aE aB bm S M){i m:Nat}{r:aV}{e:aZ}(ai:de n i m r e){l:Int}{y a:Nat}(bN:hn S.B l y)(bd:eg n W y i a)(a7:a<m)(bP:hb n W C S){T:Int}(b4:T<=e.aQ):
 bx aH 122 [.ptr f 0,aa i,aa m,aa l,.bool e.ct] M (λv N=>v=.tuple []/\gA f M N/\∃p,eJ n q f ao aC ap aE aB bm p N/\p.P=S.P/\p.B=S.B/\h6 n C T S p/\hb n W C p/\yR n (λi=>(p.R i).cl) i m e):=by
 obtain⟨b_,aD,ba⟩:=H.box;obtain⟨g,bi,ver,b3,cb,rfl,bU,bW,bX⟩:=H.out;have bb:i<n.ar.length:=(az.1 ai.cy).1;obtain⟨x,bZ,bl⟩:=bX i bb;obtain⟨⟨cd,b0⟩,_⟩:=bl.n4;have bQ:=ai.cy;have bH:=ai.cV;have bK:decide (i<n.ar.length)=U:=be bb;have bT:=aD;have b9:=JZ n i;have b8:=F.xD;refine dX HM ?_;simp only[eZ] at aD;simp only[dN];refine od @b5 aD bQ bH @aV.row.eq_1 @aZ.row.eq_1 bU bW bZ bK b0 ?_;refine c6 (kB n i) (λj a2 N=>∃p,a2=[.ptr f 0,aa m,aa l,.bool e.ct,aa e.aQ,x,aa (kB n i).length,aa j]/\gA f M N/\eJ n q f ao aC ap aE aB (.an bi ver 0 n.ar.length) p N/\p.P=S.P/\p.B=S.B/\h6 n C T S p/\hb n W C p/\
  ∀(s k:Nat)(z:b1),s<j->(kB n i)[s]? =I k->n.bj[k]? =I z->wq n (λi=>(p.R i).cl) m e z)
  ⟨S,rfl,.refl _ _,H,rfl,rfl,.refl _ _ _ _,bP,λ_ _ _ h=>aJ h (c9 _)⟩ ?_ ?_;rotate_left
 . rintro a2 N ⟨p,rfl,bh,aj,aq,af,ax,aw,aS⟩;refine aL @bV ?_;refine⟨bh,p,aj,aq,af,ax,aw,λz am w u=>?_⟩;obtain⟨k,bc⟩:=eb am;obtain⟨j,D⟩:=eb (t4.2 ⟨z,bc,w⟩);exact aS j k z (az.1 D).1 D bc u
 rintro j k a2 N aU D bJ ⟨p,rfl,bh,aj,aq,af,ax,aw,aS⟩;obtain⟨z,am,aX⟩:=t4.1 (bI aU);have aA:=bI am;obtain⟨⟨bR,bS⟩,bg⟩:=F.bj z aA;obtain⟨_,bp,c,t,A⟩:=F.iY z aA;obtain⟨b2,bo,jU,bn,Y⟩:=z;obtain⟨d,rfl⟩:∃d:Nat,jU=d:=⟨jU.toNat,by simp only at bR;omega⟩;obtain⟨O,rfl⟩:∃d:Nat,bn=d:=⟨bn.toNat,by simp only at bS;omega⟩;simp only at aX bg t A;rw[dU] at t A;obtain⟨ca,aY,cc⟩:=aj.box;obtain⟨E,bC,bD⟩:=(l9.e5 bh bT bl).n4.2 j k aU;have aF:=λL=>cE N L;have bv:∀(B X:au)(L:Mem),(N++B::L).set N.length X=N++X::L:=λB X L=>hZ N B X L;have bw:∀(a B X:au)(L:Mem),(N++a::B::L).set (N.length+1) X=N++a::X::L:=λa B X L=>by simp
 have aI:∀L:Mem,(N++L)[N.length+1]? =L[1]? :=λL=>by rw[fH J,show N.length+1 -N.length=1 by omega]
 have bk:=λL=>a0 aY L;simp only[eZ] at aY bk;have a6:∀o:eF,h6 n C T p o->wq n (λi=>(o.R i).cl) m e ⟨b2,bo,d,O,Y⟩->∀(s Q:Nat)(z:b1),s<j+1->(kB n i)[s]? =I Q->n.bj[Q]? =I z->wq n (λi=>(o.R i).cl) m e z:=λo u ab s Q z aN ae aP=>by
  rcases eT s j with h|h
  . exactλa S c b d f g bM=>(u.st.run _).fy (aS s Q z h ae aP a S c b d f g bM)
  . obtain rfl:s=j:=J;rw[aU] at ae;cases ae;rw[am] at aP;cases aP;exact ab
 have bL:∀(K:aV)(Z:aZ),n.ar[d]? =I K->K.aO[O]? =I Z->Z=c:=λK Z w u=>by rw[t] at w;cases w;rw[A] at u;cases u;rfl
 have a9:d<n.ar.length:=(az.1 t).1;have b7:=(az.1 A).1;have b6:=(F.len bp (bI t)).2;have av:∀G:Mem,(bo=m->e.aQ<=c.aR->(Y=U∨(e.ct=U/\c.cM=U))->False)->∃o,gA f M (N++G)/\eJ n q f ao aC ap aE aB (.an bi ver 0 n.ar.length) o (N++G)/\o.P=S.P/\o.B=S.B/\h6 n C T S o/\hb n W C o/\
  ∀(s Q:Nat)(z:b1),s<j+1->(kB n i)[s]? =I Q->n.bj[Q]? =I z->wq n (λi=>(o.R i).cl) m e z:=λG bO=>
  ⟨p,bh.trans (.a1 _ _ _),aj.a1 _,aq,af,ax,aw,a6 _ (.refl _ _ _ _) λh K Z w u ab aN _=>by rw[bL K Z w u] at ab aN;exact(bO h ab aN).elim⟩;simp-implicitDefEqProofs (disch:=omega) only[go_sem,b5,bJ,aY,bk,bC,bD,am,b1.row,aF,bv,t,A,aV.row,aZ.row,cS,fG,eH,bw,aI];apply aW<;>intro aK;rotate_left
 . refine ah ?_;obtain⟨o,h⟩:=av [_,_] λh _ _=>aK h;exact bE D ⟨o,rfl,h⟩
 refine aL aI ?_;apply aW<;>intro bA;rotate_left
 . refine ah ?_;obtain⟨o,h⟩:=av [_,_] λ_ h _=>bA J;exact bE D ⟨o,rfl,h⟩
 refine aL aF ?_;apply dt<;>intro aM;have bf:Y=U∨(e.ct=U/\c.cM=U):=.inl aM;rotate_left;refine ah ?_;apply dt<;>intro a4;rotate_left
 . refine ah ?_;obtain⟨o,h⟩:=av [_,_] λ_ _ h=>by
    rcases h with h|h
    . rw[aM] at h;cases h
    . rw[a4] at h;cases h.1
   exact bE D ⟨o,rfl,h⟩
 rotate_left;refine aL aI ?_;apply dt<;>intro a5;rotate_left
 . refine ah ?_;obtain⟨o,h⟩:=av [_,_] λ_ _ h=>by
    rcases h with h|h
    . rw[aM] at h;cases h
    . rw[a5] at h;cases h.2
   exact bE D ⟨o,rfl,h⟩
 rotate_left;have bf:Y=U∨(e.ct=U/\c.cM=U):=.inr ⟨a4,a5⟩;all_goals
  refine aL aF ?_;refine ch (DZ (aj.a1 _) a9 ⟨O,l,Y⟩) ?_;rintro v a8 ⟨rfl,bz,o,bF,bG⟩;obtain⟨a3,bq,br,bs,bt⟩:=bG.step (q:=W) (C:=C) (T:=T) (c:=O) a9 rfl J λbY al=>by rw[t] at al;cases al;exact⟨c,A,J⟩
  refine ah ?_;refine bE D ⟨o,rfl,bh.trans ((gA.a1 _ _ _).trans bz),bF,bq.trans aq,br.trans af,ax.trans a3,bt aw λbY al a_=>⟨by show(0:Int)<=O;omega,y,by rw[af];exact bN,?_⟩,a6 _ a3 λh K Z w u ab _ ae=>bs K w ae⟩;rw[t] at al;cases al;show eg n W (y+if Y then 0 else 1) d (Int.toNat O);rw[dU];cases ay:Y
  . rcases bf with h|⟨h,bB⟩
    . rw[ay] at h;cases h
    . subst ay;exact .qV bd a7 ai h ⟨t,a_,A⟩ bB aA rfl aX aK rfl rfl J
  . have bu:O=0:=by have:=bg ay;omega
    subst bu;subst ay;exact .aT bd a7 ai ⟨t,a_,A⟩ aA rfl aX aK rfl J
structure c0 where
 run:Int
 cl:Int
 src:Int
 dst:Int
 aR:Int
 aQ:Int
def c0.row(c:c0):List V:=[aa c.run,aa c.cl,aa c.src,aa c.dst,aa c.aR,aa c.aQ]
structure wo(n:ak)(q q0:aG)(C:List Int)(f bp vp br vr:Nat)(rv xv:V)(T:Int)(i k:Nat)(M:Mem)(S:eF)(N:Mem)(eB:eF):Prop where
 bh:gA f M N
 eV:eJ n q f bp vp br vr rv xv eB N
 st:h6 n C T S eB
 ok:hb n q0 C eB
 bD:∀s:Nat,(eB.P s).rd≠-1->ma n eB.P s (eB.P s).rd
 c4:eB.B.length<=S.B.length+61
 nP:eB.fB=ad->nC n eB.P (λi=>(eB.R i).cl) i k
def aa6{n:ak}{q:aG}{C:List Int}{T:Int}(S:eF){s:Nat}{t:Int}(i:0<=t)(h:(S.P s).rd=-1∨t<(S.P s).rd):h6 n C T S {S with P:=cb S.P s (gw (S.P s) t)}/\(hb n q C S->hb n q C {S with P:=cb S.P s (gw (S.P s) t)})/\cD (cb S.P s (gw (S.P s) t) s).rd t/\
 ∀j,(cb S.P s (gw (S.P s) t) j).aj=(S.P j).aj/\(cb S.P s (gw (S.P s) t) j).cn=(S.P j).cn/\(cb S.P s (gw (S.P s) t) j).fa=(S.P j).fa/\(cb S.P s (gw (S.P s) t) j).dl=(S.P j).dl/\(j≠s->(cb S.P s (gw (S.P s) t) j).rd=(S.P j).rd):=by
 have key:∀j,(cb S.P s (gw (S.P s) t) j).aj=(S.P j).aj/\(cb S.P s (gw (S.P s) t) j).cn=(S.P j).cn/\(cb S.P s (gw (S.P s) t) j).fa=(S.P j).fa/\(cb S.P s (gw (S.P s) t) j).dl=(S.P j).dl/\(j≠s->(cb S.P s (gw (S.P s) t) j).rd=(S.P j).rd):=λj=>by
  by_cases e:j=s
  . subst e;rw[fq];exact⟨rfl,rfl,rfl,rfl,λh=>aJ rfl h⟩
  . rw[hy _ _ e];exact⟨rfl,rfl,rfl,rfl,λ_=>rfl⟩
 have a:iu S.P (cb S.P s (gw (S.P s) t)):=λj=>by rw[(key j).1,(key j).2.1];exact⟨.refl _,.refl _⟩
 refine⟨⟨⟨a,λj=>?_,λ_=>.refl _,λj=>.inl (key j).2.1,λ_=>.inl rfl⟩,id,λ_=>⟨λj=>⟨(key j).1,(key j).2.1⟩,λ_=>rfl⟩,Nat.add_le_add_right (Kd a) _,.inl,[],by simp⟩,λae=>⟨λj=>?_,ae.run⟩,?_,key⟩
 . by_cases e:j=s
   . subst e;intro g;show(cb S.P j (gw (S.P j) t) j).rd≠-1/\(cb S.P j (gw (S.P j) t) j).rd<=_;rw[fq];show t≠-1/\t<=_;omega
   . show gi (cb S.P s (gw (S.P s) t) j).rd _;rw[(key j).2.2.2.2 e];exact .refl _
 . obtain⟨b,c,d,f,_⟩:=key j;show((cb S.P s (gw (S.P s) t) j).aj≠-1->_)/\_;rw[b,c,d,f];exact ae.snd j
 . rw[fq];exact⟨by show t≠-1;omega,fS _⟩
structure CD(n:ak)(q q0:aG)(C:List Int)(f bp vp br vr:Nat)(rv xv:V)(T:Int)(M:Mem)(S yQ:eF)(N:Mem)(eB:eF):Prop where
 bh:gA f M N
 eV:eJ n q f bp vp br vr rv xv eB N
 st:h6 n C T S eB
 ok:hb n q0 C eB
 bD:∀s:Nat,(eB.P s).rd≠-1->ma n eB.P s (eB.P s).rd
 c4:eB.B.length<=S.B.length+61
 run:∀i,(eB.R i).cl=(yQ.R i).cl
def zo{n:ak}(F:jH n){q m:aG}{C:List Int}{f p E t G:Nat}{A K:V}{S h c:eF}{M g:Mem}{i k b:Nat}{r:aV}{a e:aZ}(af:de n i k r a)(d:de n i (k+1) r e)(H:CD n q m C f p E t G A K a.aR M S h g c)(am:a.aR<=e.aQ)(aI:h.P=S.P)
 (ap:a.cM=U->cD (S.P a.stop.toNat).cn a.aR->cD (h.R i).cl k){l:Int}{y:Nat}(au:hn c.B l y)(ay:eg n m y i b)(aJ:b<=k)
 (ao:e.ct=U->cD (c.P e.stop.toNat).aj e.aQ/\cD (c.P e.stop.toNat).cn (e.aQ+dS n e.stop)/\cD (c.P e.stop.toNat).rd e.aQ){u:Nat}(z:g[u]? =I (.box (c0.row ⟨i,k,a.stop,e.stop,a.aR,e.aQ⟩)))(s:av)
 (T:aE s 0=.ptr f 0)(X:aE s 3=.ptr u 0)(Y:aE s 7=.bool e.ct)(Z:aE s 8=aa l):
 ck aH zm (iT [] (k1 λv N=>v=V.tuple []/\∃L,wo n q m C f p E t G A K a.aR i k M S N L)) s g:=by
 have O:((k:Nat):Int)+1=((k+1:Nat):Int):=J;have aK:=(az.1 d.cV).1;have aL:=(F.len r (bI d.cy)).2;have ar:=RU F H.eV d au ay J H.ok am;simp only[c0.row] at z;simp-implicitDefEqProofs (disch:=omega) only[go_sem,↓aX 36,z,T,X,Y,Z,O];refine ch ar ?_;rintro v aC ⟨rfl,Q,o,ai,x,ab,D,aA,ae⟩;refine ah ?_;have st:=H.st.trans D;refine⟨o,H.bh.trans Q,ai,st,aA,by rw[x];exact H.bD,by rw[ab];exact H.c4,λaw=>?_⟩;have ax:=st.same aw;refine⟨λaB aD j aq al=>?_,λal aB aF j=>?_⟩
 . obtain⟨rfl,rfl⟩:=af.same j;rw[(ax.1 _).2] at al;have W:=ap aq al;show cD (o.R i).cl k;have w:=D.st.run i;simp only[H.run] at w;exact w.fy W
 . obtain⟨rfl,rfl⟩:=d.same j;refine⟨λan=>?_,ae⟩;rw[x];exact ao an
def wN{n:ak}(F:jH n){q Q:aG}{C:List Int}{f K aF af am:Nat}{ci bF:V}{S c:eF}{M o:Mem}{i k:Nat}{r:aV}{a e:aZ}(W:de n i k r a)(E:de n i (k+1) r e)
 (cF:∀i k r e,de n i k r e->e.aQ∈C/\e.aQ+dS n e.stop∈C/\∀p∈n.bw,e.aQ+p.bs∈C)(dv:S.B.length<=10000000000)(H:CD n q Q C f K aF af am ci bF a.aR M S c o c)(bR:c.B=S.B)(aN:c.P=S.P)
 (aU:a.cM=U->cD (S.P a.stop.toNat).cn a.aR->cD (c.R i).cl k){ao:Nat}(br:o[ao]? =I (.box (c0.row ⟨i,k,a.stop,e.stop,a.aR,e.aQ⟩)))(bq:ao≠f)(s:av)(u:aE s 0=.ptr f 0)(w:aE s 3=.ptr ao 0)(A:aE s 4=.slice (r.aO.map aZ.row) r.tag):
 ck aH DP (pf (ck aH (DQ.seq (DR.seq (DS.seq (DT.seq (DU.seq zm)))))) (iT [] (k1 λv N=>v=V.tuple []/\∃cs,wo n q Q C f K aF af am ci bF a.aR i k M S N cs))) s o:=by
 have a2:i<n.ar.length:=(az.1 W.cy).1;have b2:=W.cy;have bW:=W.cV;have ax:=E.cV;have aA:=bI b2;have ab:=F.stop r aA e (bI ax);have a6:=F.aM r aA e (bI ax);have dz:=F.aM r aA a (bI bW);have aS:=F.next r aA k (k+1) a e bW ax (Nat.lt_succ_self _);have dw:=(az.1 ax).1;have dx:=(F.len r aA).2;have bJ:((k:Nat):Int)+1=((k+1:Nat):Int):=J;have b1:0<n.ar.length:=J;obtain rfl:=(H.eV.run b1).1;obtain⟨dA,aD,ba⟩:=H.eV.box;have bE:=λL=>a0 aD L;have b7:=λL:Mem=>a0 (H.eV.run b1).2 L;have cT:(dR n.ar.length c.R)[i]? =I [aa (c.R i).cl,aa (c.R i).prev,.bool (c.R i).aT]:=g8 _ a2;have bX:=λL:Mem=>e2 (n:=n.ar.length) (i:=i) (b7 L) a2 (by rw[dR,ep];exact bk _);have bZ:=λL:Mem=>lI (b7 L) cT rfl;have Z:=λL=>a0 br L;have a8:=λL=>cE o L;have cw:∀(B X:au)(L:Mem),(o++B::L).set o.length X=o++X::L:=λB X L=>hZ o B X L;obtain⟨g,dE,ver,dn,dD,c9,c_,da,db⟩:=H.eV.out;obtain⟨x,dh,di⟩:=db i a2;have cR:decide (i<n.ar.length)=U:=be a2;have dj:=λL=>a0 c_ L;have co:=(l9.e5 (gA.a1 f o [.box (d1 (c.R i))]) aD di).n4.1.2;have bc:=H.eV.a1 [.box (d1 (c.R i))];have a9:gA f M (o++[.box (d1 (c.R i))]):=H.bh.trans (.a1 _ _ _);have a4:(cD (c.R i).cl k->(e.ct=U->False)/\kB n i=[])->wo n q Q C f K aF af am (.an af am 0 n.ar.length) bF a.aR i k M S (o++[.box (d1 (c.R i))]) c:=λh=>by
  refine⟨a9,bc,H.st,H.ok,H.bD,H.c4,λ_=>⟨λdd dm bd cO al=>?_,λal dd dp bd=>?_⟩⟩
  . obtain⟨rfl,rfl⟩:=W.same bd;rw[aN] at al;exact aU cO al
  . obtain⟨rfl,rfl⟩:=E.same bd;obtain⟨aI,aK⟩:=h al;refine⟨λcL=>(aI cL).elim,λz c5 c6=>?_⟩;obtain⟨j,cY⟩:=eb c5;have:=t4.2 ⟨z,cY,c6⟩;rw[aK] at this;cases this
 simp only[eZ] at aD bE;simp only[c0.row] at br Z;simp only[d1] at co bc a9 a4;subst c9;simp-implicitDefEqProofs (disch:=omega) only[go_sem,↓aX 11,b5,bE,aD,bX,bZ,br,Z,u,w,A,a8,cw,(by simpa using bX []:d8 3 (.an af am 0 n.ar.length) (aa (i:Int)) o=_),(by simpa using bZ []:dZ 3 U (.df af am i 0) o=_)];apply aW<;>intro bO
 . refine ah ?_;exact⟨c,a4 λh=>aJ bO h.1⟩
 refine es u w A Z a8 ?_;apply aW<;>intro dq
 . refine ah ?_;exact⟨c,a4 λh=>aJ h.2 J⟩
 obtain⟨_,dt,y,c1,O⟩:=H.ok.run i bO;obtain⟨b,bn⟩:∃b:Nat,(c.R i).cl=b:=⟨(c.R i).cl.toNat,J⟩;rw[bn,dU] at O;have bp:b<=k:=J;obtain⟨cg,B,bT⟩:=Mj O;have cx:cg=r:=by have:=bT.cy;rw[b2] at this;cases this;rfl
 subst cx;have cP:=bT.cV;refine mI u w A Z bJ ax @aZ.row.eq_1 ?_;apply cU<;>intro cz;refine od u w A @b5 bE Z dj da dh cR co ?_;apply aW<;>intro dr
 . refine ah ?_;exact⟨c,a4 λ_=>⟨λh=>kI (cz.symm.trans h),lY.1 J⟩⟩
 all_goals
  refine og u w A Z a8 bn cP @aZ.row.eq_1 bJ ?_;have bQ:=bc;have a_:=a9;rw[bn] at bQ a_;refine ch (DY bQ (by rw[bR];omega) ⟨U,i,b,((k+1:Nat):Int),B.stop,e.stop,B.aR,e.aQ,(c.R i).aT⟩ (c.R i).prev) ?_;rintro v cq ⟨rfl,bb,aq⟩;have c2:=bb _ _ (Z _) bq (oZ _);have ay:hn (c.B++[(⟨U,i,b,((k+1:Nat):Int),B.stop,e.stop,B.aR,e.aQ,(c.R i).aT⟩,(c.R i).prev)]) c.B.length (y+if(c.R i).aT then 0 else 1):=by
   have:=hn.new (x:=⟨U,i,b,((k+1:Nat):Int),B.stop,e.stop,B.aR,e.aQ,(c.R i).aT⟩) c1;cases ai:(c.R i).aT
   . rw[ai] at this;exact this
   . rw[ai] at this;exact this
  obtain⟨D,Y⟩:∃D:eF,D={c with B:=c.B++[(⟨U,i,b,((k+1:Nat):Int),B.stop,e.stop,B.aR,e.aQ,(c.R i).aT⟩,(c.R i).prev)]}:=⟨_,rfl⟩;rw[<-Y] at aq;have bS:D.B=c.B++[(⟨U,i,b,((k+1:Nat):Int),B.stop,e.stop,B.aR,e.aQ,(c.R i).aT⟩,(c.R i).prev)]:=by rw[Y]
  have bg:D.P=c.P:=by rw[Y]
  have bj:D.R=c.R:=by rw[Y]
  rw[<-bS] at ay;have cj:h6 n C a.aR c D:=by rw[Y];exact I5 n C a.aR c _
  have cf:hb n Q C D:=by rw[Y];exact H.ok.c4 _
  have dy:D.B.length=c.B.length+1:=by rw[bS];simp
  have ds:c.B.length=S.B.length:=by rw[bR]
  clear Y;refine b6 u w A ?_;apply cU<;>intro ap
  . refine b6 u w A ?_;exact zo (F) W E ⟨a_.trans bb,aq,H.st.trans cj,cf,by rw[bg];exact H.bD,J,λ_=>by rw[bj]⟩ aS aN aU ay O bp (λh=>kI (ap.symm.trans h)) c2 _ rfl rfl rfl rfl
  obtain⟨dB,cd,dC⟩:=aq.box;obtain⟨st,ai⟩:∃st,n.aB[e.stop.toNat]? =I st:=⟨n.aB[e.stop.toNat]'J,cG J⟩;have du:=F.uT st (bI ai);have aY:dS n e.stop=st.change:=by simp only[dS,ai]
  have cX:∀G:Mem,d8 4 (.slice (n.aB.map Stop.row) n.ij) (aa e.stop) G=I (.eD st.row):=λG=>by
   have d:decide (0<=e.stop)=U:=be ab.1;have cS:(n.aB.map Stop.row)[e.stop.toNat]? =I st.row:=by rw[dK,ai];rfl
   simp only[d8,d,bi,cS];rfl
  have cW:d8 5 (.an K aF 0 n.aB.length) (aa e.stop) cq=I (.df K aF e.stop.toNat 0):=by have:=e2 (n:=n.aB.length) aq.pl (by omega:e.stop.toNat<n.aB.length) (by rw[f1,ep];exact bk _);rwa [fr ab.1] at this
  simp only[eZ] at cd;obtain⟨ce,bB,c8⟩:=cF i (k+1) cg e E;rw[aY] at bB;refine og u w A c2 @b5 cd cW cX @Stop.row.eq_1 ?_;refine ch (Bs aq ab.1 ab.2 e.aQ (e.aQ+st.change) c.B.length) ?_;rintro v bG ⟨rfl,bL,aw⟩;have c3:=bL _ _ c2 bq (oZ _);obtain⟨hW,ca,bz,bA,cc⟩:=Am (n:=n) (q:=Q) (C:=C) (T:=a.aR) D (d:=e.stop.toNat) J (l:=c.B.length) a6.1 (by omega:0<=e.aQ+st.change) ce bB J;have cN:fU n Q (y+if(c.R i).aT then 0 else 1) e.stop e.aQ:=.bl O J E ap;have bC:=cc cf ⟨ce,a6.1,J,_,ay,by rw[fr ab.1];exact cN⟩ ⟨bB,J,J,_,ay,λc7 cu cr cp bf bm a5 bx=>by rw[fr ab.1] at a5;exact .bl O J E ap bf bm a5 (by rw[aY];exact bx)⟩;obtain⟨m,aP⟩:∃m:eF,m=kZ D e.stop.toNat e.aQ (e.aQ+st.change) c.B.length:=⟨_,rfl⟩;rw[<-aP] at aw hW ca bz bA bC;have aL:m.B=D.B:=by rw[aP];rfl
  have bU:m.R=D.R:=by rw[aP];rfl
  clear aP cc;have cm:=(H.st.trans cj).trans hW;have bK:=(a_.trans bb).trans bL;have a3:=aw.pl;have b9:e.stop.toNat<n.aB.length:=J;have bt:(f1 n.aB.length m.P)[e.stop.toNat]? =I [aa (m.P e.stop.toNat).aj,aa (m.P e.stop.toNat).rd,aa (m.P e.stop.toNat).cn,aa (m.P e.stop.toNat).fa,aa (m.P e.stop.toNat).dl]:=g8 _ b9;have b_:∀s:Nat,(m.P s).rd≠-1->ma n m.P s (m.P s).rd:=λs ae=>by rw[ca] at ae⊢;rw[bg] at ae⊢;have:=hW.st.imp;rw[bg] at this;exact this.v8 (H.bD s ae)
  have bu:hn m.B c.B.length (y+if(c.R i).aT then 0 else 1):=by rw[aL];exact ay
  have dF:∀B:au,(bG.set K B)[K]? =I B:=λB=>bY aw.lt.2.1;have dG:∀x:List V,((f1 n.aB.length m.P).set e.stop.toNat x)[e.stop.toNat]? =I x:=λx=>bY (by rw[f1,ep];exact b9);have cQ:ao≠K:=λe=>by rw[e,a3] at c3;cases c3
  have bH:∀B:au,(bG.set K B)[ao]? =I (.box [aa i,aa k,aa a.stop,aa e.stop,aa a.aR,aa e.aQ]):=λB=>by rw[bo (cA cQ)];exact c3
  refine he u w A @g7 a3 bt ?_;apply aW<;>intro bP;have b0:(m.P e.stop.toNat).rd=-1∨e.aQ<(m.P e.stop.toNat).rd:=.inl bP;rotate_left;refine mI u w A c3 @g7 a3 bt ?_;apply aW<;>intro cB;rotate_left
  . refine b6 u w A ?_;exact zo (F) W E ⟨bK,aw,cm,bC,b_,by rw[aL];omega,λ_=>by rw[bU,bj]⟩ aS aN aU bu O bp (λ_=>⟨bz,by rw[aY];exact bA,bP,J⟩) c3 _ rfl rfl rfl rfl
  rotate_left;have b0:(m.P e.stop.toNat).rd=-1∨e.aQ<(m.P e.stop.toNat).rd:=.inr cB;all_goals
   refine oe u w A c3 @g7 a3 bt bH ?_;obtain⟨gz,dg,dH,s2⟩:=aa6 (n:=n) (q:=Q) (C:=C) (T:=a.aR) m (s:=e.stop.toNat) (t:=e.aQ) a6.1 b0;obtain⟨bV,bM⟩:=aw.vU (cb m.P e.stop.toNat (gw (m.P e.stop.toNat) e.aQ));rw[<-LA] at bV bM;refine ch (D1 (F) (q0:=Q) (C:=C) bV (by show m.B.length+60<=_;rw[aL];omega) e.stop e.aQ c.B.length a.aR ⟨a6.1,J⟩ aS (dg bC) bu λp bv aI aK=>⟨.bD O J E ap bv aI aK,λc7 cu cr cp bf bm a5 bx=>.bD O J E ap bv aI aK bf bm a5 bx,c8 p bv⟩) ?_;rintro v dk ⟨rfl,bN,a7,cI,aC,dc,cH,b3,cC,cJ⟩;have cv:=bN _ _ (bH _) bq (oZ _);obtain⟨X,cK⟩:=aC.c4;have cZ:∀s,s≠e.stop.toNat->(a7.P s).rd=(m.P s).rd:=λs ae=>(b3 s).trans ((s2 s).2.2.2.2 ae);have b4:(a7.P e.stop.toNat).rd=e.aQ:=(b3 _).trans (by show(cb m.P e.stop.toNat (gw (m.P e.stop.toNat) e.aQ) e.stop.toNat).rd=_;rw[fq];rfl);refine b6 u w A ?_;refine zo (F) W E ⟨bK.trans (bM.trans bN),cI,cm.trans (gz.trans aC),dc,λs ae=>?_,?_,λj=>?_⟩ aS aN aU (by rw[cK];exact bu.a1 X) O bp (λ_=>⟨?_,?_,?_⟩) cv _ rfl rfl rfl rfl
   . by_cases b8:s=e.stop.toNat
     . rw[b8,b4,fr ab.1];exact cJ
     . rw[cZ s b8] at ae⊢;exact(gz.st.imp.trans aC.st.imp).v8 (b_ s ae)
   . have:a7.B.length<=m.B.length+60:=cC;rw[aL] at this;omega
   . rw[cH];show(m.R j).cl=_;rw[bU,bj]
   . exact((gz.st.imp.trans aC.st.imp) _).1.fy bz
   . rw[aY];exact((gz.st.imp.trans aC.st.imp) _).2.fy bA
   . rw[b4];exact⟨J,fS _⟩
theorem RW{n:ak}(F:jH n){q q0:aG}{C:List Int}{f bp vp br vr:Nat}{rv xv:V}{S:eF}{M:Mem}(H:eJ n q f bp vp br vr rv xv S M){i k:Nat}{r:aV}{a e:aZ}(b:de n i k r a)(g:de n i (k+1) r e)(j:hb n q0 C S)
 (m:∀i k r e,de n i k r e->e.aQ∈C/\e.aQ+dS n e.stop∈C/\∀p∈n.bw,e.aQ+p.bs∈C)(o:∀s:Nat,(S.P s).rd≠-1->ma n S.P s (S.P s).rd)(t:S.B.length<=10000000000):
 bx aH 66 [.ptr f 0,.agg (c0.row ⟨i,k,a.stop,e.stop,a.aR,e.aQ⟩)] M (λv N=>v=.tuple []/\∃Z,wo n q q0 C f bp vp br vr rv xv a.aR i k M S N Z):=by
 have O:i<n.ar.length:=(az.1 b.cy).1;have u:=b.cy;have w:=b.cV;have ao:=g.cV;have R:=bI u;have W:=F.stop r R a (bI w);have aI:=(az.1 ao).1;have aK:=(F.len r R).2;have aA:=H.a1 [.box (c0.row ⟨i,k,a.stop,e.stop,a.aR,e.aQ⟩)];obtain⟨aM,aD,ba⟩:=H.box;have Y:=λL=>a0 aD L;have Q:=λL:Mem=>a0 H.pl L;have ap:(f1 n.aB.length S.P)[a.stop.toNat]? =I [aa (S.P a.stop.toNat).aj,aa (S.P a.stop.toNat).rd,aa (S.P a.stop.toNat).cn,aa (S.P a.stop.toNat).fa,aa (S.P a.stop.toNat).dl]:=g8 _ J;have aq:=λL:Mem=>by have:=e2 (n:=n.aB.length) (Q L) (by omega:a.stop.toNat<n.aB.length) (by rw[f1,ep];exact bk _);rwa [fr W.1] at this
 have d:=λL=>cE M L;have ai:∀(a B X:au)(L:Mem),(M++a::B::L).set (M.length+1) X=M++a::X::L:=λa B X L=>by simp
 have l:∀L:Mem,(M++L)[M.length+1]? =L[1]? :=λL=>by rw[fH J,show M.length+1 -M.length=1 by omega]
 refine dX HP ?_;simp only[eZ] at aD Y;simp only[dN];simp-implicitDefEqProofs (disch:=omega) only[go_sem,c0.row,b5,Y,d,ai,l,u,aV.row,w,aZ.row,Q,aq,ap,cS,fG,eH];apply cU<;>intro E
 . refine ah ?_;exact wN (F) b g m t ⟨.a1 _ _ _,H.a1 _,.refl _ _ _ _,j,o,J,λ_=>rfl⟩ rfl rfl (λh=>kI (E.symm.trans h)) (by rw[d];rfl) (by have:=H.lt.1;omega) _ rfl rfl rfl
 refine aL l ?_;apply aW<;>intro G
 . refine ah ?_;exact wN (F) b g m t ⟨.a1 _ _ _,H.a1 _,.refl _ _ _ _,j,o,J,λ_=>rfl⟩ rfl rfl (λ_ h=>aJ G h.1) (by rw[d];rfl) (by have:=H.lt.1;omega) _ rfl rfl rfl
 refine bN d l ?_;apply cF<;>intro K
 . refine ah ?_;exact wN (F) b g m t ⟨.a1 _ _ _,H.a1 _,.refl _ _ _ _,j,o,J,λ_=>rfl⟩ rfl rfl (λ_ h=>aJ h.2 K) (by rw[d];rfl) (by have:=H.lt.1;omega) _ rfl rfl rfl
 refine bN d l ?_;refine ch (DZ (H.a1 _) O ⟨k,(S.P a.stop.toNat).dl,ad⟩) ?_;rintro v aC ⟨rfl,D,aE,am,al⟩;obtain⟨ab,z,A,ae,af⟩:=al.step (q:=q0) (C:=C) (T:=a.aR) (c:=k) O rfl J λay x=>by rw[u] at x;cases x;exact⟨a,w,fS _⟩
 have ax:=af j λay x aF=>by obtain⟨_,_,_,y,av,aw⟩:=(j.snd a.stop.toNat).2 G;refine⟨by show(0:Int)<=k;omega,y,av,?_⟩;show eg n q0 (y+1) i (Int.toNat k);rw[dU];exact aw i k r a b E (fr W.1).symm K
 have an:=D M.length _ (by rw[d];rfl) (by have:=H.lt.1;omega) (oZ _);refine ah ?_;exact wN (F) b g m t ⟨(gA.a1 _ _ _).trans D,am,ab,ax,by rw[z];exact o,by rw[A];omega,λ_=>rfl⟩ A z (λ_ _=>ae r u b.ds) an (by have:=H.lt.1;omega) _ rfl rfl rfl
def RT{N:Mem}{n:Nat}(A:n<=1000)(p:Nat->Bool)(s:∀i j,i<=j->p i=U->p j=U){f:Nat}{d:List V}(x:∀i,i<n->bx aH f (aa (i:Int)::d) N (λv a8=>v=.bool (p i)/\a8=N)):
 bx aH 118 [aa n,.fn f d] N (λv a8=>(∃k:Nat,v=aa k/\k<=n/\∀j,j<n->(j<k↔p j=ad))/\a8=N):=by
 refine dX Ft ?_;simp only[dN];refine ah ?_;refine jz (λm t M=>∃a b:Nat,t=[.fn f d,aa a,aa b]/\M=N/\a<=b/\b<=n/\m=b -a/\(∀j,j<a->p j=ad)/\∀j,b<=j->j<n->p j=U) n ⟨0,n,rfl,rfl,c_ _,bk _,J,λ_ h=>aJ h (c9 _),λj g w=>aJ w J⟩ ?_;rintro m t M ⟨a,b,rfl,rfl,z,u,rfl,l,o⟩;refine ah ?_;apply cF<;>intro h
 . refine ah ?_;refine⟨a,rfl,J,λj y=>⟨l j,λc=>?_⟩⟩;rcases eT j a with q|q
   . exact q
   . rw[o j J y] at c;cases c
 have al:cT .quo .none (aa ((a:Int)+b)) (aa 2)=I (aa (((a+b)/2:Nat):Int)):=by have e:((a:Int)+b)=((a+b:Nat):Int):=J;rw[e];exact Kx _ J
 refine aL al ?_;refine ch (x ((a+b)/2) J) ?_;rintro v a8 ⟨rfl,rfl⟩;refine ah ?_;apply dt<;>intro r
 . refine ah ?_;exact .inl ⟨(a+b)/2 -a,J,a,(a+b)/2,rfl,rfl,J,J,rfl,l,λj g _=>s _ _ g r⟩
 . refine ah ?_;refine .inl ⟨b -((a+b)/2+1),J,(a+b)/2+1,b,rfl,rfl,J,u,rfl,λj g=>?_,o⟩;cases c:p j
   . rfl
   . have:=s j ((a+b)/2) J c;rw[r] at this;cases this
structure tc(n:ak)(l:List c0):Prop where
 mem:∀c∈l,∃(i k:Nat)(r:aV)(a e:aZ),de n i k r a/\de n i (k+1) r e/\c=⟨i,k,a.stop,e.stop,a.aR,e.aQ⟩
 all:∀i k r a e,de n i k r a->de n i (k+1) r e->(⟨i,k,a.stop,e.stop,a.aR,e.aQ⟩:c0)∈l
 BH:∀(x y:Nat)(c d:c0),x<y->l[x]? =I c->l[y]? =I d->c.aR<=d.aR
 len:l.length<=35
def RY{n:ak}{l:List c0}(H:tc n l)(c:cg)(t:Int):bq aH 65 [.slice (l.map c0.row) c,aa t] (λv=>∃k:Nat,v=aa k/\k<=l.length/\∀(j:Nat)(x:c0),l[j]? =I x->(j<k↔x.aR<=t)):=by
 have z:=H.len;have r:(l.map c0.row).length=l.length:=cz _;obtain⟨p,e⟩:∃p:Nat->Bool,p=λi=>match l[i]? with|some x=>decide (t<x.aR)|none=>U:=⟨_,rfl⟩
 have s:∀i j,i<=j->p i=U->p j=U:=λi j u h=>by
  rw[e] at h⊢;simp only at h⊢;cases d:l[j]? with
  |none=>rfl
  |some y=>
   have w:=(az.1 d).1;have a:l[i]? =I l[i]:=cG J;rw[a] at h;have h:=of_decide_eq_true h;rcases eT i j with g|g
   . have:=H.BH i j _ y g a d;exact bR
   . obtain rfl:i=j:=J;rw[a] at d;cases d;exact be h
 have m:∀i,i<l.length->bx aH 119 [aa (i:Int),.ptr 0 0,.ptr 1 0] [.box [.slice (l.map c0.row) c],.box [aa t]] (λv a8=>v=.bool (p i)/\a8=[.box [.slice (l.map c0.row) c],.box [aa t]]):=λi a=>by have b:l[i]? =I l[i]:=cG a;refine dX Fq ?_;simp only[dN];refine bN b @c0.row.eq_1 ?_;rw[e];simp only[b]
 have o:=RT (n:=l.length) J p s m;refine bB Fr (aL r ?_);refine ch o ?_;rintro v a8 ⟨⟨k,rfl,q,f⟩,rfl⟩;refine ah ?_;refine⟨k,rfl,q,λj x b=>?_⟩;have h:=f j (az.1 b).1;rw[h,e];simp only[b,decide_eq_false_iff_not];omega
def aca(n:ak)(q:aG)(c:n.wf)(ok:di n)(al:ka n.aB.length q)(b:q.hE=ad):bq aH 62 [.agg n.row,.agg q.row] (λv=>v=v0):=by have a:=wb n q c ok al;refine bB HF ?_;simp only[ak.row,aG.row] at a;refine bN @ak.row.eq_1 @aG.row.eq_1 ?_;exact bG a (jy b)
theorem hp.frame{c:Nat}{N a8:Mem}{x:V}{R:List (List V)}{a:Nat}(f:∀(j:Nat)(B:au),N[j]? =I B->j≠a->a8[j]? =I B)(g:(x=.slice [] .nil/\a=N.length)∨∃v,x=.an a v 0 R.length/\N[a]? =I (.aj c R v 0)){i:Nat}{B:au}(b:N[i]? =I B)(d:∀R v,B≠.aj c R v 0):a8[i]? =I B:=
 f i B b λe=>by
  subst e;rcases g with⟨_,rfl⟩|⟨v,_,e⟩
  . have:=(az.1 b).1;omega
  . rw[e] at b;cases b;exact d _ _ rfl
structure oz(M:Mem)(n:ak)(q:aG)(aaO rv:V)(N:Mem):Prop where
 vE:N[M.length]? =I (.box n.row)
 dA:N[M.length+1]? =I (.box q.row)
 hV:N[M.length+3]? =I (eZ n q (.slice [] .nil) aaO rv (.an (M.length+2) 0 0 n.ar.length) ad)
 q5:∀(j:Nat)(cs:List V),M[j]? =I (.box cs)->N[j]? =I (.box cs)
def oz.put{M:Mem}{n:ak}{q:aG}{e f pv' rv':V}{N a8:Mem}(h:oz M n q e f N)(b:∀(j:Nat)(a:List V),N[j]? =I (.box a)->a8[j]? =I (.box a)):oz M n q pv' rv' (a8.set (M.length+3) (eZ n q (.slice [] .nil) pv' rv' (.an (M.length+2) 0 0 n.ar.length) ad))/\
 a8[M.length+3]? =I (eZ n q (.slice [] .nil) e f (.an (M.length+2) 0 0 n.ar.length) ad):=by
 have c:=b _ _ h.hV;refine⟨⟨?_,?_,bY (az.1 c).1,λj a d=>?_⟩,c⟩
 . rw[bo J];exact b _ _ h.vE
 . rw[bo J];exact b _ _ h.dA
 . have:=(az.1 d).1;rw[bo J];exact b _ _ (h.q5 j a d)
def oz.cj{M:Mem}{n:ak}{q:aG}{c d:V}{N a8:Mem}(h:oz M n q c d N)(b:∀(j:Nat)(a:List V),N[j]? =I (.box a)->a8[j]? =I (.box a)):oz M n q c d a8:=⟨b _ _ h.vE,b _ _ h.dA,b _ _ h.hV,λj a e=>b _ _ (h.q5 j a e)⟩
def RX{n:ak}(F:jH n){q k:aG}(ap:0<=q.src/\q.src<n.aB.length)(aK:0<=q.aM/\q.aM<=3155932800)(W:k.src=q.src)(z:k.aM=q.aM)(a6:k.hc=q.hc)(M:Mem):
 bx aH 63 [.agg n.row,.agg q.row] M (λv N=>∃f w O E Q ab cc S,v=.ptr f 0/\(∀(j:Nat)(y:List V),M[j]? =I (.box y)->j≠f/\N[j]? =I (.box y))/\eJ n q f w O E Q ab cc S N/\hb n k (fY n k) S/\rQ n k S.P/\(∀s,(S.P s).rd=-1)/\S.B.length<=60):=by
 have cp:=F.aB;have co:=F.ar;have cn:=F.xD;refine dX HT ?_;simp only[dN];have a4:∀G:Mem,(M++G)[M.length]? =G[0]? :=λG=>cE M G;have a5:∀G:Mem,(M++G)[M.length+1]? =G[1]? :=λG=>fW M G 1;have bT:=λG:Mem=>JF (M:=G) (n:=n.ar.length) J;simp-implicitDefEqProofs (disch:=omega) only[go_sem,ak.row,aG.row,a4,a5,bT,cS,fG,eH];obtain⟨ay,aA⟩:∃ay,ay=M++[au.box n.row,.box q.row,.b7 (d_ n.ar.length (.slice [] .nil)) 0,eZ n q (.slice [] .nil) (.slice [] .nil) (.slice [] .nil) (.an (M.length+2) 0 0 n.ar.length) ad]:=⟨_,rfl⟩;have bb:oz M n q (.slice [] .nil) (.slice [] .nil) ay/\ji n (M.length+2) 0 ay:=by subst aA;exact⟨⟨by rw[a4];rfl,by rw[a5];rfl,by rw[fW];rfl,λj y A=>a0 A _⟩,.zero (by rw[fW];rfl)⟩
 simp only[ak.row,aG.row,eZ] at aA;rw[<-aA];clear aA;have o:∀(j:Nat)(x:List V),(d_ j x).length=j:=λj x=>List.length_replicate;refine d4 n.aB.length (λj u N=>∃x,u=[.ptr M.length 0,.ptr (M.length+1) 0,.ptr (M.length+3) 0,aa n.aB.length,aa j]/\oz M n q x (.slice [] .nil) N/\hp 5 N x (d_ j (m9 ⟨-1,-1,-1,-1,-1⟩))/\ji n (M.length+2) 0 N) ⟨_,rfl,bb.1,.inl ⟨rfl,rfl⟩,bb.2⟩ ?_ ?_
 . rintro j u N A ao ⟨x,rfl,K,ai,H⟩;obtain⟨a,ver,a8,L,D,aZ,aq,av⟩:=ai.push (r:=m9 ⟨-1,-1,-1,-1,-1⟩) (bytes:=40) rfl (by rw[o];omega);rw[o] at L;have af:∀(i:Nat)(B:au),N[i]? =I B->(∀R v,B≠.aj 5 R v 0)->a8[i]? =I B:=λi B m t=>hp.frame aq av m t;obtain⟨al,Y⟩:=K.put (pv':=.an a ver 0 (j+1)) (rv':=.slice [] .nil) λi y m=>af i _ m λ_ _ e=>by cases e
   have aQ:a≠M.length+3:=λe=>by rw[e,Y] at D;cases D
   have Z:=K.hV;simp only[eZ] at Z Y al;simp only[m9] at L;refine es ao @b5 Z L Y ?_;refine bE A ⟨_,rfl,al,.inr ⟨a,ver,by rw[o],?_,by rw[o];omega⟩,H.cj λi B m t=>?_⟩
   . rw[bo (cA aQ),List.replicate_succ'];exact D
   . have:=af _ _ m λR v e=>by rw[e] at t;rcases t with⟨_,e⟩|⟨_,_,e⟩<;>cases e
     rw[bo λe=>by rw[<-e,Z] at m;cases m;rcases t with⟨_,e⟩|⟨_,_,e⟩<;>cases e];exact this
 rintro u cd ⟨cq,rfl,aP,bA,bD⟩;rcases bA with⟨_,e⟩|⟨w,O,rfl,a9,_⟩
 . exfalso;have:=congrArg List.length e;rw[o] at this;simp only[eu] at this;omega
 rw[o] at aP;have bY:d_ n.aB.length (m9 ⟨-1,-1,-1,-1,-1⟩)=f1 n.aB.length (λ_=>⟨-1,-1,-1,-1,-1⟩):=vR _ _;rw[bY] at a9;have bf:=aP.vE;simp only[ak.row] at bf;refine bN @bV bf ?_;refine d4 n.ar.length (λj u N=>∃x,u=[.ptr M.length 0,.ptr (M.length+1) 0,.ptr (M.length+3) 0,aa n.ar.length,aa j]/\oz M n q (.an w O 0 n.aB.length) x N/\N[w]? =I (.aj 5 (f1 n.aB.length (λ_=>⟨-1,-1,-1,-1,-1⟩)) O 0)/\hp 3 N x (d_ j (d1 gl))/\ji n (M.length+2) 0 N) ⟨_,rfl,aP,a9,.inl ⟨rfl,rfl⟩,bD⟩ ?_ ?_
 . rintro j u N A ao ⟨x,rfl,K,am,ai,H⟩;obtain⟨a,ver,a8,L,D,aZ,aq,av⟩:=ai.push (r:=d1 gl) (bytes:=24) rfl (by rw[o];omega);rw[o] at L;have af:∀(i:Nat)(B:au),N[i]? =I B->(∀R v,B≠.aj 3 R v 0)->a8[i]? =I B:=λi B m t=>hp.frame aq av m t;obtain⟨al,Y⟩:=K.put (pv':=.an w O 0 n.aB.length) (rv':=.an a ver 0 (j+1)) λi y m=>af i _ m λ_ _ e=>by cases e
   have aQ:a≠M.length+3:=λe=>by rw[e,Y] at D;cases D
   have bM:w≠M.length+3:=λe=>by rw[e,K.hV] at am;cases am
   have bO:=af _ _ am λ_ _ e=>by cases e
   have Z:=K.hV;have bL:d1 gl=[aa (-1),aa (-1),.bool ad]:=rfl;simp only[eZ] at Z Y al;simp only[bL] at L;refine es ao @b5 Z L Y ?_;refine bE A ⟨_,rfl,al,?_,.inr ⟨a,ver,by rw[o],?_,by rw[o];omega⟩,H.cj λi B m t=>?_⟩
   . rw[bo (cA bM)];exact bO
   . rw[bo (cA aQ),List.replicate_succ'];exact D
   . have:=af _ _ m λR v e=>by rw[e] at t;rcases t with⟨_,e⟩|⟨_,_,e⟩<;>cases e
     rw[bo λe=>by rw[<-e,Z] at m;cases m;rcases t with⟨_,e⟩|⟨_,_,e⟩<;>cases e];exact this
 rintro u ce ⟨ab,rfl,ba,bP,bB,bF⟩;have bg:=ba.vE;simp only[ak.row] at bg;refine bN @bV bg ?_;refine c6 n.bj (λj u N=>u=[.ptr M.length 0,.ptr (M.length+1) 0,.ptr (M.length+3) 0,.slice (n.bj.map b1.row) n.lc,aa n.bj.length,aa j]/\oz M n q (.an w O 0 n.aB.length) ab N/\N[w]? =I (.aj 5 (f1 n.aB.length (λ_=>⟨-1,-1,-1,-1,-1⟩)) O 0)/\hp 3 N ab (d_ n.ar.length (d1 gl))/\ji n (M.length+2) j N) ⟨rfl,ba,bP,bB,bF⟩ ?_ ?_
 . rintro j x u N aX A ao ⟨rfl,K,am,ai,H⟩;obtain⟨⟨b0,b2⟩,_⟩:=F.iY x (bI aX);obtain⟨br,bq,bp,bn,bs⟩:=x;obtain⟨s,rfl⟩:∃s:Nat,br=s:=⟨br.toNat,by simp only at b0;omega⟩;have bl:s<n.ar.length:=by simp only at b2;omega
   obtain⟨y,c,a,ver,a8,L,D,aZ,aq,av,cb,aw⟩:=(H.a1 [.box [aa s,aa bq,aa bp,aa bn,.bool bs]]).step J aX rfl bl;have a3:=λG=>cE N G;have bu:∀(B X:au)(G:Mem),(N++B::G).set N.length X=N++X::G:=λB X G=>hZ N B X G;have aS:=a0 K.hV [.box [aa s,aa bq,aa bp,aa bn,.bool bs]];have bm:=(aw _ _ aS (λ_ _ _ e=>by cases e)).1;have bd:decide (s<n.ar.length)=U:=be bl;have cl:decide (s<y.length)=U:=by rw[D];exact bd
   have dA:=(aw N.length _ (by rw[a3];rfl) (λ_ _ _ e=>by cases e)).1;simp only[eZ] at aS bm;simp-implicitDefEqProofs (disch:=omega) only[go_sem,ao,aX,b1.row,a3,bu,b5,aS,L,D,aZ,aq,av,bd,bm,dA];refine bE A ⟨rfl,K.cj λi y m=>(aw _ _ (a0 m _) (λ_ _ _ e=>by cases e)).2 (λ_ _ e=>by cases e),(aw _ _ (a0 am _) (λ_ _ _ e=>by cases e)).2 (λ_ _ e=>by cases e),ai.cj λi v m=>(aw _ _ (a0 m _) (λ_ _ _ e=>by cases e)).2 (λ_ _ e=>by cases e),cb⟩
 rintro u a2 ⟨rfl,aC,bQ,bC,bG⟩;obtain⟨E,Q,bZ⟩:∃E Q,0<n.ar.length->ab=.an E Q 0 n.ar.length/\a2[E]? =I (.aj 3 (dR n.ar.length λ_=>gl) Q 0):=by
  rcases bC with⟨_,e⟩|⟨E,Q,e,g,_⟩
  . refine⟨0,0,λh=>?_⟩;have:=congrArg List.length e;rw[o] at this;simp only[eu] at this;omega
  . rw[o] at e;rw[vR] at g;exact⟨E,Q,λ_=>⟨e,g⟩⟩
 have bw:eJ n q (M.length+3) w O E Q ab (.an (M.length+2) 0 0 n.ar.length) ⟨λ_=>⟨-1,-1,-1,-1,-1⟩,λ_=>gl,[],ad⟩ a2:=⟨⟨_,aC.hV,.inl ⟨rfl,rfl⟩⟩,bQ,bZ,_,bG.all⟩;have bU:hb n k (fY n k) ⟨λ_=>⟨-1,-1,-1,-1,-1⟩,λ_=>gl,[],ad⟩:=⟨λs=>⟨λh=>aJ rfl h,λh=>aJ rfl h⟩,λi h=>aJ rfl h⟩;obtain⟨aY,b9,b_⟩:=ZH (n:=n) (q:=k);obtain⟨st,aW⟩:∃st,n.aB[q.src.toNat]? =I st:=⟨n.aB[q.src.toNat]'J,cG J⟩;have ck:=F.uT st (bI aW);have bc:dS n q.src=st.change:=by simp only[dS,aW]
 have bS:∀G:Mem,d8 4 (.slice (n.aB.map Stop.row) n.ij) (aa q.src) G=I (.eD st.row):=λG=>by
  have d:decide (0<=q.src)=U:=be ap.1;have bR:(n.aB.map Stop.row)[q.src.toNat]? =I st.row:=by rw[dK,aW];rfl
  simp only[d8,d,bi,bR];rfl
 have aD:=aC.dA;have bh:=aC.vE;simp only[aG.row] at aD;simp only[ak.row] at bh;refine bN @bV aD ?_;apply dt<;>intro a_;have aU:q.aM+st.change=k.aM+(if k.hc then dS n k.src else 0):=by rw[W,z,a6,aF a_,bc]
 have aE:0<=q.aM+st.change/\q.aM+st.change<=3155936400:=J;have aV:q.aM+st.change∈fY n k:=by rw[<-bc,<-W,<-z];exact b9
 have bk:q.aM<=q.aM+st.change:=J;rotate_left;have aU:q.aM=k.aM+(if k.hc then dS n k.src else 0):=by rw[z,a6,ax (by rw[a_];exact kI)];omega
 have aE:0<=q.aM/\q.aM<=3155936400:=J;have aV:q.aM∈fY n k:=by rw[<-z];exact aY
 have bk:q.aM<=q.aM:=fS _;all_goals
  refine d0 aD bh bS @Stop.row.eq_1 ?_;refine ch (D1 (F) (q0:=k) (C:=fY n k) bw (by show 0+60<=_;omega) q.src q.aM (-1) q.aM aK (fS _) bU .nil λp aT aN aO=>?_) ?_
  . rw[<-W] at aN;rw[<-z] at aO⊢;exact⟨.kA aT aN aO,λi b R B H aR ae aI=>.kA aT aN aO H aR ae aI,b_ p aT⟩
  rintro v cf ⟨rfl,a7,bt,bH,cr,ca,ci,bX,bz,bK⟩;have bW:=a7 _ _ aD J (oZ _);refine aL bW ?_;refine ch (Bs bH ap.1 ap.2 q.aM _ (-1)) ?_;rintro v cg ⟨rfl,bv,bJ⟩;obtain⟨hW,b3,b4,b6,b8⟩:=Am (n:=n) (q:=k) (C:=fY n k) (T:=q.aM) bt (d:=q.src.toNat) J (l:=-1) aK.1 aE.1 (by rw[<-z];exact aY) aV bk;refine ah ?_;refine⟨_,w,O,E,Q,ab,_,_,rfl,λj y A=>?_,bJ,b8 ca ⟨by rw[<-z];exact aY,aK.1,aK.2,0,.nil,?_⟩ ⟨aV,aE.1,aE.2,0,.nil,λi b R B H aR ae aI=>?_⟩,⟨?_,?_,?_⟩,λs=>?_,bz⟩
  . have cm:=(az.1 A).1;exact⟨J,bv _ _ (a7 _ _ (aC.q5 j y A) J (oZ _)) J (oZ _)⟩
  . rw[fr ap.1,<-W,<-z];exact .eP
  . rw[fr ap.1,<-W] at ae;rw[aU] at aI;exact .eP H aR ae aI
  . rw[W,z];exact b4
  . rw[<-aU,W];exact b6
  . rw[W,z];exact hW.st.imp.v8 bK
  . exact(b3 s).trans (bX s)
end Go.ao.C
