/- A part of the proof of TopAgreement: the abstract machine, the code that the statement reaches, the contracts of its functions. Part 1. The text is made short by a program. -/
import Derived.Test.YtbndjigedmpplaaGreatG0
set_option linter.all false
set_option maxHeartbeats 8000000
set_option maxRecDepth 10000
open Array renaming getD_eq_getD_getElem?->gL,getElem?_eq_some_iff->jC
open Bool renaming and_eq_true->bL,and_self->cR,false->ad,false_eq_true->gX,not_eq_true'->hM,or_eq_true->ln,true->U
open Int renaming toNat_natCast->dU
open List renaming append_assoc->cS,append_nil->ez,cons_append->fG,drop_eq_getElem_cons->mM,drop_zero->hN,ext_getElem?->lp,getD->jc,getElem?_append_left->et,getElem?_append_right->fH,getElem?_cons_zero->hg,getElem?_drop->h2,getElem?_eq_getElem->cG,getElem?_eq_none->jd,getElem?_eq_some_iff->az,getElem?_map->dK,getElem?_of_mem->eb,getElem?_set_ne->bo,getElem?_set_self->bY,getElem?_take_of_lt->fT,length_append->b0,length_cons->cc,length_drop->kJ,length_eq_zero_iff->lY,length_map->cz,length_nil->eu,length_set->cW,map_cons->gg,mem_append->dv,mem_cons->fI,mem_cons_of_mem->fs,mem_cons_self->ft,mem_of_getElem?->bI,mem_range->hh,nil_append->eH,range->b8,take_of_length_le->eS
open Nat renaming add_assoc->jg,add_mul->gZ,add_zero->g_,beq->dG,blt->ha,eq_of_beq_eq_true->l2,le_refl->bk,le_trans->fJ,lt_or_ge->eT,mul_one->jV,not_lt_zero->c9,sub_self->hA,zero_add->dm,zero_le->c_
open Ne renaming symm->cA
open Option renaming getD_some->nz,map_eq_some_iff->cL,map_some->jE,none->ag,some->I
open Option.some renaming injEq->aC
open Prod.mk renaming injEq->dh
namespace Go.ao
open Go.RowKit (Below)
section
variable{P:Program}{w:World}{Γ:Env}{M:Mem}{s:av}{a:Act}{o:Oper}{v:V}
theorem rs{n:Nat}:∀{b:List V},cd n b=U->∀(j:Nat)(x:V),b[j]? =I x->x.under n=U
 |[],_,j,x,h=>by simp at h
 |y::c,a,j,x,h=>by
  simp only[cd,bL] at a;cases j with
  |zero=>simp at h;exact h▸a.1
  |succ j=>exact rs a.2 j x (by simpa using h)
theorem a_.move{n:Nat}{w':World}{Γ':Env}(ae:∀b o,Γ.S b o->Γ'.S b o/\jt w' b o=jt w b o)(C:∀i,i<n->Γ'.cf[i]? =Γ.cf[i]?){x:V}{F:Value}(h:a_ w Γ x F)(z:x.under n=U):a_ w' Γ' x F:=by
 induction h with
 |undef v=>exact .undef v
 |bool b=>exact .bool b
 |int k n=>exact .int k n
 |str s=>exact .str s
 |db=>exact .db
 |ff=>exact .ff
 |hY=>exact .hY
 |hf c m=>exact .hf c m
 |jv c m p=>exact .jv c m p
 |slice L c b o M cap a m H G K B A u d e=>exact(a_.slice L c b o M cap a m H G K B A u d).vN ae rfl
 |eD cells b o a B A u d e=>exact(a_.eD cells b o a B A u d).vN ae rfl
 |cq cells b o a J B A u d e=>exact(a_.cq cells b o a J B A u d).vN ae rfl
 |cI f D a t u d e=>exact(a_.cI f D a t u d).vN ae rfl
 |ptr id off l r E y=>exact .ptr id off l (by rw[C id (by simpa[V.under] using z)];exact r) E y
 |df id ver row off l r y p h=>exact .df id ver row off l (by rw[C id (by simpa[V.under] using z)];exact r) y p h
 |an id ver start len l r y q h m=>exact .an id ver start len l (by rw[C id (by simpa[V.under] using z)];exact r) y q h m
 |map id l r E y=>exact .map id l (by rw[C id (by simpa[V.under] using z)];exact r) E y
 |fn f D a t d e=>exact .fn f D a t (λj x g=>e j x g (rs (by simpa[V.under] using z) j x g))
 |agg cells a t d e=>exact .agg cells a t (λj x g=>e j x g (rs (by simpa[V.under] using z) j x g))
 |tuple N a t d e=>exact .tuple N a t (λj x g=>e j x g (rs (by simpa[V.under] using z) j x g))
def Env.out(Γ:Env)(n:Nat):Env:=⟨n,[],Γ.S⟩
def Good.out(b:Good w Γ M):Good w (Γ.out w.heap.size) []:=
 ⟨rfl,λi l B a=>by simp[Env.out] at a,λi l a=>by simp[Env.out] at a,λi j l e a=>by simp[Env.out] at a,b.hx,bk _,λd c=>b.mH d (c.mono b.bf)⟩
def frame(a:Good w Γ M){f:Nat}{args:List V}{m:Array Value}{R:V->Prop}(h:bq P f args R)(C:dz w Γ args m)(N:cd 0 args=U):
 Calls P f m w (λe c=>∃v p d,e=.returned p/\R v/\v.under 0=U/\a_ c d v p/\Good c d M/\Ext w Γ c d/\Below w.heap.size w c):=by
 have H:dz w (Γ.out w.heap.size) args m:=⟨C.1,λj x D=>a_.move (n:=0) (Γ:=Γ) (w:=w) (Γ':=Γ.out w.heap.size) (w':=w) (λb o ae=>⟨ae,rfl⟩) (λi z=>aJ z (c9 i)) (C.2 j x D) (rs N j x D)⟩;refine(h.2 w (Γ.out w.heap.size) m a.out H).mono ?_;rintro e c ⟨v,p,Γ0,O,J,⟨G,F,g⟩,L,K,y⟩;subst F;have r:Below w.heap.size w c:=y.below;have A:∀b q,b<w.heap.size->Γ0.S b q->Γ.S b q:=λb q u ae=>y.nr b q u ae;let d:Env:=⟨Γ.hl,Γ.cf,Γ0.S⟩
 have t:Ext w Γ c d:=⟨λb q ae=>y.s b q ae,λi l k=>⟨l,k,bk _,λ_=>rfl,λ_=>rfl⟩,rfl,r.mono a.bf,λb q u ae=>A b q (Nat.lt_of_lt_of_le u a.bf) ae⟩;refine⟨v,p,d,J,G,g,a_.move (n:=0) (Γ:=Γ0) (w:=c) (Γ':=d) (w':=c) (λb q ae=>⟨ae,rfl⟩) (λi z=>aJ z (c9 i)) L g,?_,t,r⟩;refine⟨a.len,λi l B k E=>(a.dI i l B k E).cj t (λg=>r.block _ (a.j0 k g)) (λg q ae=>A _ q (a.j0 k g) ae),a.ek,a.inj,K.hx,fJ a.bf r.size,a.rn t⟩
def bq.call{f:Nat}{args:List V}{R:V->Prop}(h:bq P f args R)(l:cd 0 args=U){K:V->Mem->Prop}(j:∀v,R v->v.under 0=U->K v M):bx P f args M K:=
 ⟨h.1,λ_ _ _ g d=>(frame g h d l).mono λ_ _ ⟨v,a,n,e,c,m,k,i,b,_⟩=>⟨v,a,n,M,e,j v c m,k,i,b⟩⟩
def Env.hJ(Γ:Env)(w:World)(n:Nat):Env:=
 ⟨Γ.hl,Γ.cf.take n,λb q=>Γ.S b q∨(∃i l,n<=i/\Γ.cf[i]? =I l/\l.live=U/\l.b=b/\∃v,w.cell? ⟨b,q,ag⟩=I v)⟩
def pN{n:Nat}{x:V}{a:Value}(h:a_ w Γ x a)(d:x.under n=U):a_ w (Γ.hJ w n) x a:=
 h.move (n:=n) (Γ':=Γ.hJ w n) (w':=w) (λb q ae=>⟨Or.inl ae,rfl⟩) (λi c=>by simp only[Env.hJ];exact fT c) d
def ID{n:Nat}{x:V}{a:Value}(h:a_ w Γ x a)(c:x.ia=U):a_ w (Γ.hJ w n) x a:=
 h.vN (Γ':=Γ.hJ w n) (w':=w) (λb q ae=>⟨Or.inl ae,rfl⟩) c
theorem vz{f:V->Option V}:∀{b a:List V},eO f b=I a->b.length=a.length/\∀(j:Nat)(y:V),a[j]? =I y->∃x,b[j]? =I x/\f x=I y
 |[],a,h=>by simp only[eO,aC] at h;subst h;exact⟨rfl,λj y m=>by simp at m⟩
 |x::b,a,h=>by
  simp only[eO] at h;split at h
  . rename_i y o d e;simp only[aC] at h;subst h;obtain⟨l,k⟩:=vz e;refine⟨by simp[l],λj z c=>?_⟩;cases j with
    |zero=>simp at c;subst c;exact⟨x,rfl,d⟩
    |succ j=>obtain⟨n,g,i⟩:=k j z (by simpa using c);exact⟨n,by simpa using g,i⟩
  . cases h
theorem Iy(aj:Good w Γ M){n:Nat}:∀(k:Nat){x y:V}{E:Value},a_ w Γ x E->cY M n k x=I y->a_ w (Γ.hJ w n) y E:=by
 intro k;induction k with
 |zero=>intro x y E h a;simp only[cY] at a;obtain⟨G,rfl⟩:=ef a;exact pN h G
 |succ k ap=>
  intro x y E h a;have aA:∀{z:V},(bif z.under n then I z else ag)=I y->a_ w Γ z E->a_ w (Γ.hJ w n) y E:=λ{z} H d=>by obtain⟨G,rfl⟩:=ef H;exact pN d G
  have aq:∀{X Y:List V}{q:Array Value},eO (cY M n k) X=I Y->q.size=X.length->(∀(j:Nat)(x:V),X[j]? =I x->a_ w Γ x (q.getD j Go.undef))->q.size=Y.length/\∀(j:Nat)(x:V),Y[j]? =I x->a_ w (Γ.hJ w n) x (q.getD j Go.undef):=λ{X Y q} v g d=>by obtain⟨ae,F⟩:=vz v;refine⟨J,λj y D=>?_⟩;obtain⟨x,m,ai⟩:=F j y D;exact ap (d j x m) ai
  cases x
  case ptr id off=>
   simp only[cY] at a;cases B:decide (id<n) with
   |true=>simp only[B,bi,aC] at a;subst a;exact pN h (by simpa[V.under] using B)
   |false=>
    simp only[B,eE] at a;have aS:n<=id:=by simpa using B
    split at a
    . rename_i cells N;split at a
      . rename_i e v;obtain⟨t,rfl⟩:=ef a;simp only[bL,cZ] at t;cases h with
        |ptr _ _ l g aQ aN=>
         obtain⟨ae,_,F,c,T,ah,P⟩:=aj.dI id l _ g N;obtain⟨aa,ab⟩:=vz v;have A:∀j,j<e.length->w.cell? ⟨l.b,off+j,ag⟩=I (c.getD (off+j) Go.undef):=λj p=>by rw[iy ah];exact h9 (by rw[P.1];simp at aa;omega)
         have Q:∀j,j<e.length->(Γ.hJ w n).S l.b (off+j):=λj p=>.inr ⟨id,l,aS,g,aN,rfl,_,A j p⟩;have ax:∀(j:Nat)(y:V),e[j]? =I y->a_ w (Γ.hJ w n) y (c.getD (off+j) Go.undef):=λj y D=>by obtain⟨x,m,ai⟩:=ab j y D;rw[h2] at m;exact ap (P.2 _ _ m) ai
         split
         . exact .cq _ l.b 0 (λj=>c.getD (0+j) Go.undef) (by simp) Q (λj p=>by simp only[jt,A j p,ah]) (qu t.1) ax
         . exact .eD e l.b off (λj=>c.getD (off+j) Go.undef) Q A (qu t.1) ax
      . cases a
    . cases a
  case an id ver start len=>
   simp only[cY] at a;cases B:decide (id<n) with
   |true=>simp only[B,bi,aC] at a;subst a;exact pN h (by simpa[V.under] using B)
   |false=>
    simp only[B,eE] at a;have aS:n<=id:=by simpa using B
    split at a
    . rename_i z W ay aP N;obtain⟨t,rfl⟩:=ef a;simp only[bL,beq_iff_eq,cZ] at t;cases h with
      |an _ _ _ _ l g aJ _ ao aK=>
       obtain⟨ae,av,F,ah,P,aB,aD,aw,C⟩:=aj.dI id l _ g N;have s:((W.drop start).take len).length=len:=by simp;omega
       rcases ao (by rw[F,t.1]) with⟨_,rfl,rfl⟩|⟨O,aF,of,Z,rfl,aG,aI,al⟩
       . rw[List.take_zero];exact .hf _ (.inr rfl)
       . obtain⟨Q,c,T,C,aE,af⟩:=C O;have A:∀i j,i<len->j<l.sz->w.cell? ⟨l.b,of+(i*l.sz+j),ag⟩=I (c.getD ((start+i)*l.sz+j) Go.undef):=λi j o p=>by
          rw[al J,iy C,gZ,jg];refine h9 ?_;have:=p_ (n:=l.cap) (i:=start+i) J p;rw[gZ] at this;omega
         have R:∀i r,((W.drop start).take len)[i]? =I r->i<len/\W[start+i]? =I r:=λi r d=>by
          have o:i<len:=by rw[<-s];exact(az.1 d).1
          rw[fT o,h2] at d;exact⟨o,d⟩
         have:=a_.slice (w:=w) (Γ:=Γ.hJ w n) ((W.drop start).take len) .bF l.b of l.sz Z (λi j=>c.getD ((start+i)*l.sz+j) Go.undef) (by simp) (by simp) (by rw[s];omega)
          (λi r d=>aD _ _ (R i r d).2)
          (λi j o p=>.inr ⟨id,l,aS,g,O,rfl,_,A i j (by rw[<-s];exact o) p⟩)
          (λi j o p=>A i j (by rw[<-s];exact o) p)
          (λi r j x d m=>aw _ _ _ _ (R i r d).2 m)
          (λi r j x d m=>ID (af _ _ _ _ (R i r d).2 m) (aw _ _ _ _ (R i r d).2 m));rw[s] at this;exact this
    . rename_i cells ay N;cases t:ay==ver&&decide (start+len<=cells.length) with
      |false=>simp[t] at a
      |true=>
       simp only[t,bi] at a;simp only[bL,beq_iff_eq,cZ] at t;split at a
       . rename_i e v;obtain⟨aM,rfl⟩:=ef a;obtain⟨aa,ab⟩:=vz v;have s:e.length=len:=by rw[<-aa];simp;omega
         cases h with
         |an _ _ _ _ l g aJ _ ao aK=>
          obtain⟨ae,av,F,P,aB,C⟩:=aj.dI id l _ g N;rcases ao (by rw[F,t.1]) with⟨_,rfl,rfl⟩|⟨O,aF,of,Z,rfl,aG,aI,al⟩
          . have:e=[]:=lY.1 s;subst this;exact .hf _ (.inr rfl)
          . obtain⟨Q,c,T,C,aE,af⟩:=C O;have A:∀i,i<len->w.cell? ⟨l.b,of+i,ag⟩=I (c.getD (start+i) Go.undef):=λi o=>by
             rw[al J,av,jV,iy C];exact h9 J
            have ar:∀(i:Nat)(r:List V),(e.map λx=>[x])[i]? =I r->∃x,e[i]? =I x/\r=[x]:=λi r d=>by rw[dK,cL] at d;obtain⟨x,m,rfl⟩:=d;exact⟨x,m,rfl⟩
            have au:∀(r:List V)(x y:V)(j:Nat),r=[x]->r[j]? =I y->j=0/\y=x:=λr x y j d D=>by
             subst d;have p:j=0:=by have:=(az.1 D).1;simp at this;omega
             subst p;simp only[hg,aC] at D;exact⟨rfl,D.symm⟩
            have:=a_.slice (w:=w) (Γ:=Γ.hJ w n) (e.map λx=>[x]) .bF l.b of 1 Z (λi _=>c.getD (start+i) Go.undef) (by simp) (by simp) (by simp[s];omega)
             (λi r d=>by obtain⟨x,_,rfl⟩:=ar i r d;rfl)
             (λi j o p=>by have ak:j=0:=J;subst ak;rw[jV,g_];exact .inr ⟨id,l,aS,g,O,rfl,_,A i (by simpa[s] using o)⟩)
             (λi j o p=>by have ak:j=0:=J;subst ak;rw[jV,g_];exact A i (by simpa[s] using o))
             (λi r j x d m=>by obtain⟨z,H,am⟩:=ar i r d;obtain⟨rfl,rfl⟩:=au r z x j am m;exact qu aM _ _ H)
             (λi r j x d m=>by
               obtain⟨z,H,am⟩:=ar i r d;obtain⟨rfl,rfl⟩:=au r z x j am m;obtain⟨u,G,aH⟩:=ab i x H;have o:i<len:=by rw[<-s];exact(az.1 H).1
               rw[fT o,h2] at G;exact ap (af _ _ G) aH);rw[cz,s] at this;exact this
       . cases a
    . cases a
  case fn f aO=>
   simp only[cY] at a;split at a
   . rename_i e v;simp only[aC] at a;subst a;cases h with
     |fn _ _ q g d=>
      obtain⟨K,L⟩:=aq v g d;cases aL:fL e with
      |true=>exact .cI f e q K (qu aL) L
      |false=>exact .fn f e q K L
   . cases a
  case agg cells=>
   simp only[cY,cL] at a;obtain⟨e,v,rfl⟩:=a;cases h with
   |agg _ q g d=>obtain⟨K,L⟩:=aq v g d;exact .agg e q K L
  case tuple aR=>
   simp only[cY,cL] at a;obtain⟨e,v,rfl⟩:=a;cases h with
   |tuple _ q g d=>obtain⟨K,L⟩:=aq v g d;exact .tuple e q K L
  all_goals exact aA (by simpa only[cY] using a) h
end
theorem ace{x:V}(h:x.nc=U){n:Nat}:x.under n=U:=by
 have one:∀{y:V},y.qR=U->y.under n=U:=λ{y} b=>by cases y<;>first|rfl|cases b
 have all:∀(a:List V),a.all V.qR=U->cd n a=U:=λa=>by
  induction a with
  |nil=>intro _;rfl
  |cons y d c=>intro h;simp only[List.all_cons,bL] at h;simp only[cd,one h.1,c h.2,cR]
 cases x with
 |agg cells=>exact all cells h
 |_=>exact one h
theorem Mc{n:Nat}:∀{b:List (V×V)},kE n b=U->∀(i:Nat)(a:V×V),b[i]? =I a->a.2.under n=U
 |[],_,i,a,h=>by simp at h
 |(k,v)::b,h,i,a,c=>by
  simp only[kE,bL] at h;cases i with
  |zero=>simp at c;subst c;exact h.1
  |succ i=>exact Mc h.2 i a (by simpa using c)
theorem Good.pop{w:World}{Γ:Env}{M:Mem}(s:Good w Γ M){n:Nat}(ax:n<=M.length)(aa:b4 n (M.take n)=U):Good w (Γ.hJ w n) (M.take n):=by
 have ab:∀(N:Mem),b4 n N=U->∀(i:Nat)(B:au),N[i]? =I B->B.under n=U:=by
  intro N;induction N with
  |nil=>intro _ i B h;simp at h
  |cons aq N ai=>
   intro h i B z;simp only[b4,bL] at h;cases i with
   |zero=>simp at z;exact z▸h.1
   |succ i=>exact ai h.2 i B (by simpa using z)
 have E:∀i l,(Γ.hJ w n).cf[i]? =I l->i<n/\Γ.cf[i]? =I l:=λi l a=>by
  simp only[Env.hJ] at a;have g:i<n:=by have:=(az.1 a).1;simp at this;omega
  rw[fT g] at a;exact⟨g,a⟩
 have C:∀i l,i<n->Γ.cf[i]? =I l->l.live=U->∀q,(Γ.hJ w n).S l.b q->Γ.S l.b q:=λi l g a d q ae=>by
  rcases ae with ae|⟨j,m,aw,K,af,f,_⟩
  . exact ae
  . have:=s.inj i j l m a K d af f.symm;omega
 refine⟨by simp[Env.hJ,s.len],λi l B a z=>?_,λi l a=>s.ek i l (E i l a).2,λi j l Q a Z d ah f=>s.inj i j l Q (E i l a).2 (E j Q Z).2 d ah f,λb q ae=>?_,s.bf,s.mH⟩
 . obtain⟨g,a⟩:=E i l a;have X:M[i]? =I B:=by rw[fT g] at z;exact z
   have F:=ab _ aa i B z;have f:=s.dI i l B a X;cases B with
   |box cells=>obtain⟨o,d,p,c,T,u,k⟩:=f;exact⟨o,d,λq al=>p q (C i l g a d q al),c,T,u,k.1,λj x t=>pN (k.2 j x t) (rs (by simpa[au.under] using F) j x t)⟩
   |aj aA ay ver av=>obtain⟨o,G,p,u,k,v,A,L,y⟩:=f;refine⟨o,G,p,u,k,v,A,L,λd=>?_⟩;obtain⟨D,c,T,y,J,H⟩:=y d;exact⟨λq=>⟨λal=>(D q).1 (C i l g a d q al),λal=>.inl ((D q).2 al)⟩,c,T,y,J,λi r j x O t=>ID (H i r j x O t) (L i r j x O t)⟩
   |map ar=>obtain⟨o,d,p,W,clock,u,k,v,A⟩:=f;exact⟨o,d,λq al=>p q (C i l g a d q al),W,clock,u,k,λi e P an V=>by obtain⟨R,am,ao,ap,lt⟩:=v i e P an V;exact⟨R,am,pN ao (ace R),pN ap (Mc (by simpa[au.under] using F) i P V),lt⟩,A⟩
   |b7 cells ver=>obtain⟨o,G,p,k,v,y⟩:=f;refine⟨o,G,p,k,v,λd=>?_⟩;obtain⟨D,c,T,y,J,H⟩:=y d;exact⟨λq al=>D q (C i l g a d q al),c,T,y,J,λj x t=>pN (H j x t) (rs (by simpa[au.under] using F) j x t)⟩
   |iter mid m seen=>
    obtain⟨o,d,p,ak,u,k,v,A⟩:=f;have K:mid<n:=by simpa[au.under] using F
    exact⟨o,d,λq al=>p q (C i l g a d q al),ak,by simp only[Env.hJ];rw[fT K];exact u,k,v,A⟩
   |dead=>exact f
 . rcases ae with ae|⟨i,l,g,a,d,f,Y⟩
   . exact s.hx b q ae
   . exact Y
theorem Ext.pop{w0 w:World}{Γ0 Γ:Env}{M:Mem}(j:Good w Γ M)(a:Ext w0 Γ0 w Γ){n:Nat}(e:Γ0.cf.length<=n):Ext w0 Γ0 w (Γ.hJ w n) where
 s b q ae:=⟨.inl (a.s b q ae).1,(a.s b q ae).2⟩
 cf i l c:=by obtain⟨k,f,g⟩:=a.cf i l c;have d:i<n:=Nat.lt_of_lt_of_le (az.1 c).1 e;exact⟨k,by simp only[Env.hJ];rw[fT d];exact f,g⟩
 ek:=a.ek
 below:=a.below
 nr b q h ae:=by
  rcases ae with ae|⟨i,l,d,c,o,m,_⟩
  . exact a.nr b q h ae
  . have:=j.ek i l c;rw[a.ek] at this;omega
structure bW(w0:World)(Γ0:Env)(n:Nat)(w:World)(Γ:Env)(s:av)(M:Mem)(a:Act):Prop where
 e1:Good w Γ M
 fD:dB w Γ s a.tmps
 size:a.tmps.size=n
 defers:a.defers=[]
 ext:Ext w0 Γ0 w Γ
section
variable{P:Program}{w0 w:World}{Γ0 Γ:Env}{M:Mem}{s:av}{a:Act}{n:Nat}
def j4(s:av)(u:Nat)(x:V)(t:Nat):aE (dQ s u x) t=if t=u then x else aE s t:=by
 simp only[dQ,aE];by_cases h:t=u
 . subst h;simp
 . have:(u==t)=ad:=by simpa usingλe=>h e.symm
   simp[this,h]
theorem acL{x:V}{e:Value}(ae:dB w Γ s a.tmps)(f:a_ w Γ x e){b:Option Nat}(c:∀d,b=I d->d<a.tmps.size):dB w Γ (a4 s b x) (a.put b e).tmps:=by
 cases b with
 |none=>exact ae
 |some d=>
  intro t;have c:=c d rfl;simp only[a4,j4,Act.put];by_cases h:t=d
  . subst h;simp only[if_true];simpa[gL,c] using f
  . simp only[h,if_false];have:=ae t;simpa[gL,Array.getElem?_setIfInBounds_ne (cA h)] using this
def Lg{u:Nat}{x:V}(ae:dB w Γ s a.tmps)(h:aE s u=x):dB w Γ (dQ s u x) a.tmps:=by
 intro t;rw[j4];split
 . rename_i e;subst e;rw[<-h];exact ae t
 . exact ae t
def bW.put(h:bW w0 Γ0 n w Γ s M a){x:V}{b:Value}(f:a_ w Γ x b){dst:Option Nat}(c:∀d,dst=I d->d<n):bW w0 Γ0 n w Γ (a4 s dst x) M (a.put dst b):=
 ⟨h.e1,acL h.fD f (λd e=>by rw[h.size];exact c d e),by cases dst<;>simp[Act.put,h.size],by cases dst<;>simp[Act.put,h.defers],h.ext⟩
def bW.nd(h:bW w0 Γ0 n w Γ s M a){b:World}{c:Env}{d:Mem}(f:Good b c d)(e:Ext w Γ b c):bW w0 Γ0 n b c s d a:=
 ⟨f,h.fD.ext e,h.size,h.defers,h.ext.trans e⟩
def bW.norm(h:bW w0 Γ0 n w Γ s M a)(c:List Nat):bW w0 Γ0 n w Γ (fQ s c) M a:=
 ⟨h.e1,λt=>by
   have:∀l:List Nat,a_ w Γ (aE (fQ s l) t) (a.tmps.getD t Go.undef):=by
    intro l;induction l with
    |nil=>exact .undef _
    |cons u l d=>
     simp only[fQ,aE];by_cases b:u=t
     . subst b;simpa using h.fD u
     . have:(u==t)=ad:=by simpa using b
       simpa[this] using d
   exact this c,h.size,h.defers,h.ext⟩
def KH:a_ w Γ (.tuple []) Go.undef:=.tuple [] #[] rfl (λj x a=>by simp at a)
def MD{f:Array Oper}{j d:Nat}(c:u1 n f j=I d)(l:a.tmps.size=n){b:Bool}(h:a.tmps.getD d Go.undef=.bool b):yielded f a.tmps j=I b:=by
 unfold u1 at c;split at c
 . rename_i o m;split at c
   . rename_i e i;split at c
     . rename_i p;simp only[aC] at c;subst c;have k:e<a.tmps.size:=by rw[l];assumption
       have g:a.tmps[e]? =I (.bool b):=by rw[h9 k,h]
       simp[yielded,m,i,g]
     . cases c
   . cases c
 . cases c
def ME{e:Array Oper}{j d:Nat}(b:u1 n e j=I d)(k:a.tmps.size=n)(h:a.tmps.getD d Go.undef=.tuple #[]):yielded e a.tmps j=ag:=by
 unfold u1 at b;split at b
 . rename_i o l;split at b
   . rename_i c g;split at b
     . rename_i m;simp only[aC] at b;subst b;have i:c<a.tmps.size:=by rw[k];assumption
       have f:a.tmps[c]? =I (.tuple #[]):=by rw[h9 i,h]
       simp[yielded,l,g,f]
     . cases b
   . cases b
 . cases b
def Bk{b:List Nat}{k:Array Oper}{i:Nat}{o:Oper}{c:bg}(h:o_ P n b k i o=I c):
 ∃op g,fC P (b.contains i) (b.contains (i+5000)) o.type o.op=I op/\sG n k o.guard=I g/\c=⟨o.dst,op,vv P o.type,g⟩/\∀d,o.dst=I d->d<n:=by
 unfold o_ at h;split at h
 . rename_i op g f j;split at h
   . rename_i a;simp only[aC] at h;exact⟨op,g,f,j,by rw[<-h,a],λd e=>by rw[a] at e;cases e⟩
   . rename_i d a;split at h
     . rename_i l;simp only[aC] at h;exact⟨op,g,f,j,by rw[<-h,a],λm e=>by rw[a] at e;cases e;exact l⟩
     . cases h
 . cases h
theorem Kv{a:Option Nat}{d:Bool}{v:V}{K:av->Prop}(h:i4 s a d v K):K (a4 s a v):=by
 unfold i4 at h;cases d with
 |false=>exact h
 |true=>
  simp only[pp] at h;split at h
  . rename_i b c;simp only[aC] at c;subst c;exact h
  . exact h.elim
def dz.append{f i:List V}{b g:Array Value}(a:dz w Γ f b)(h:dz w Γ i g):dz w Γ (f++i) (b++g):=by
 refine⟨by simp[a.1,h.1],λj x d=>?_⟩;by_cases c:j<f.length
 . rw[et c] at d;have:=a.2 j x d;have e:j<b.size:=by rw[a.1];exact c
   simpa[gL,Array.getElem?_append,e] using this
 . rw[fH J] at d;have:=h.2 _ x d;have e:¬j<b.size:=by rw[a.1];exact c
   simpa[gL,Array.getElem?_append,e,a.1,c] using this
def D2{f:Nat}(a:qJ P f=U)(args:Array Value)(b:World):(callFunc f args).run P b=.ok (.enter f args) b:=by
 unfold qJ at a;split at a
 . rename_i fn e;simp only[bL,bne_iff_ne,ne_eq] at a;have c:fn.body≠ag:=by
    intro d;simp[d] at a
   simp[callFunc,e,a.2,c]
 . cases a
def R5{o:Oper}{f:Nat}{args:Array Operand}{g:Array TypeId}(d:o.op=.call ⟨.value (.func f),args,g⟩)(c:qJ P f=U)(b:World):(execOp a.eval o).run P b=.ok (.enter f (args.map a.eval)) b:=by have e:a.eval (.func f)=.func (.func f) #[] #[]:=rfl;simp[execOp,d,resolve,e,Deferred.ofValue,invoke,D2 c]
def D3{o:Oper}{c:Operand}{f:Nat}{b:Array Value}{args:Array Operand}{i:Array TypeId}(g:o.op=.call ⟨.value c,args,i⟩)(h:a.eval c=.func (.func f) #[] b) (e:qJ P f=U) (d:World):
 (execOp a.eval o).run P d=.ok (.enter f (args.map a.eval++b)) d:=by
 simp[execOp,g,resolve,h,Deferred.ofValue,invoke,D2 e]
def abz{d g:Bool}{i:TypeId}{op:Op}{y:aA}(h:fC P d g i op=I (.n2 y)):∃x,op=.next x ad/\bJ x=I y:=by
 cases op
 case next x b=>cases b<;>simp only[fC,cL,reduceCtorEq] at h;obtain⟨k,a,e⟩:=h;cases e;exact⟨x,rfl,a⟩
 case call c=>
  exfalso;obtain⟨callee,args,j⟩:=c;cases callee with
  |builtin b=>
   simp only[fC,rf] at h
   (repeat' (split at h))<;>first
     |contradiction
     |(cases h;done)
     |(simp only[cL] at h;obtain⟨_,_,e⟩:=h;cases e;done)
     |(obtain⟨_,_,_,_,e⟩:=gm h;cases e;done)
  |value f=>
   cases f<;>simp only[fC] at h
   case func f=>simp only[cL] at h;obtain⟨_,_,e⟩:=h;cases e
   all_goals (obtain⟨_,_,_,_,e⟩:=gm h;cases e)
  |invoke r m=>simp[fC] at h
 all_goals
  exfalso;simp only[fC,reduceCtorEq] at h<;>(repeat' (split at h))<;>first
   |contradiction
   |(cases h;done)
   |(simp only[cL] at h;obtain⟨_,_,e⟩:=h;cases e;done)
   |(simp only[aC] at h;cases h;done)
   |(obtain⟨_,e⟩:=ef h;cases e;done)
   |(obtain⟨_,_,_,_,e⟩:=gm h;cases e;done)
def abA{l o:Bool}{s:TypeId}{op:Op}{n:Bool}{j k:aA}(h:fC P l o s op=I (.lO n j k)):
 ∃d t x y i,op=.binOp d t x y i/\uf P t=U/\bJ x=I j/\bJ y=I k/\(d=.eql/\n=ad∨d=.neq/\n=U):=by
 cases op
 case binOp d t x y i=>
  simp only[fC] at h;split at h
  . rename_i a;simp only[bL] at a;obtain⟨p,q,g,al,e⟩:=gm h;cases e;exact⟨_,t,x,y,i,rfl,a.2,g,al,.inl ⟨rfl,rfl⟩⟩
  . rename_i a;simp only[bL] at a;obtain⟨p,q,g,al,e⟩:=gm h;cases e;exact⟨_,t,x,y,i,rfl,a.2,g,al,.inr ⟨rfl,rfl⟩⟩
  . obtain⟨p,q,g,al,e⟩:=gm h;cases e
 case next x b=>exfalso;cases b<;>simp only[fC,cL,reduceCtorEq] at h;obtain⟨_,_,e⟩:=h;cases e
 case call c=>
  exfalso;obtain⟨callee,args,u⟩:=c;cases callee with
  |builtin b=>
   simp only[fC,rf] at h
   (repeat' (split at h))<;>first
     |contradiction
     |(cases h;done)
     |(simp only[cL] at h;obtain⟨_,_,e⟩:=h;cases e;done)
     |(obtain⟨_,_,_,_,e⟩:=gm h;cases e;done)
  |value f=>
   cases f<;>simp only[fC] at h
   case func f=>simp only[cL] at h;obtain⟨_,_,e⟩:=h;cases e
   all_goals (obtain⟨_,_,_,_,e⟩:=gm h;cases e)
  |invoke r m=>simp[fC] at h
 all_goals
  exfalso;simp only[fC,reduceCtorEq] at h<;>(repeat' (split at h))<;>first
   |contradiction
   |(cases h;done)
   |(simp only[cL] at h;obtain⟨_,_,e⟩:=h;cases e;done)
   |(simp only[aC] at h;cases h;done)
   |(obtain⟨_,e⟩:=ef h;cases e;done)
   |(obtain⟨_,_,_,_,e⟩:=gm h;cases e;done)
def aby{n w:Bool}{x:TypeId}{op:Op}{j:cH}(h:fC P n w x op=I j)(d:j.hX=U):
 (∃f args e i,op=.call ⟨.value (.func f),args,e⟩/\o3 args.toList=I i/\j=.call f i)∨(∃l args e y i,op=.call ⟨.value l,args,e⟩/\bJ l=I y/\o3 args.toList=I i/\j=.fM y i):=by
 have u:∀(b:Builtin)(s:List Operand)(o:List TypeId),rf P b s o n=I j->False:=λb s o a=>by
  unfold rf at a;split at a
  . split at a
    . simp only[cL] at a;obtain⟨y,_,rfl⟩:=a;cases d
    . simp only[cL] at a;obtain⟨y,_,rfl⟩:=a;cases d
    . simp only[cL] at a;obtain⟨y,_,rfl⟩:=a;cases d
    . simp only[aC] at a;subst a;cases d
    . split at a
      . simp only[aC] at a;subst a;cases d
      . cases a
    . cases a
  . split at a
    . split at a
      . split at a
        . simp only[aC] at a;subst a;cases d
        . cases a
      . cases a
    . cases a
  . split at a
    . split at a
      . split at a
        . simp only[aC] at a;subst a;cases d
        . cases a
      . cases a
    . cases a
  . obtain⟨p,q,_,_,rfl⟩:=gm a;cases d
  . obtain⟨p,q,_,_,rfl⟩:=gm a;cases d
  . cases a
 cases op
 case call c=>
  obtain⟨callee,args,e⟩:=c;cases callee with
  |builtin b=>exact(u _ _ _ (by simpa only[fC] using h)).elim
  |value f=>
   cases f with
   |func f=>simp only[fC,cL] at h;obtain⟨i,v,rfl⟩:=h;exact .inl ⟨f,args,e,i,rfl,v,rfl⟩
   |tmp t=>simp only[fC] at h;obtain⟨p,q,k,al,rfl⟩:=gm h;exact .inr ⟨_,args,e,p,q,rfl,k,al,rfl⟩
   |const c=>simp only[fC] at h;obtain⟨p,q,k,al,rfl⟩:=gm h;exact .inr ⟨_,args,e,p,q,rfl,k,al,rfl⟩
   |global g=>simp only[fC] at h;obtain⟨p,q,k,al,rfl⟩:=gm h;exact .inr ⟨_,args,e,p,q,rfl,k,al,rfl⟩
  |invoke r m=>simp[fC] at h
 all_goals
  exfalso;simp only[fC,reduceCtorEq] at h<;>(repeat' (split at h))<;>first
   |contradiction
   |(cases h;done)
   |(simp only[cL] at h;obtain⟨_,_,rfl⟩:=h;cases d;done)
   |(simp only[aC] at h;subst h;cases d;done)
   |(obtain⟨_,rfl⟩:=ef h;cases d;done)
   |(obtain⟨_,_,_,_,rfl⟩:=gm h;cases d;done)
end
section
variable{P:Program}{w0 w:World}{Γ0 Γ:Env}{M:Mem}{s:av}{a:Act}{n:Nat}
def aan(ae:dB w Γ s a.tmps){o:Oper}{op:BinOp}{t Y:TypeId}{x y:Operand}{C D:aA}{neg:Bool}(O:o.op=.binOp op t x y Y)(S:bJ x=I C)(V:bJ y=I D)
 (d:uf P t=U)(Q:op=.eql/\neg=ad∨op=.neq/\neg=U)(m:sg (aw s C) (aw s D)=U):∃b:Bool,(execOp a.eval o).run P w=.ok (.value (.bool b)) w:=by
 have v:=du ae S;have z:=du ae V;unfold uf at d;split at d
 . rename_i e R;split at d
   . rename_i n M;have N:n≠0:=by simpa using Nat.pos_iff_ne_zero.1 (of_decide_eq_true d)
     unfold sg at m;split at m
     . rename_i ab am H J;rw[H] at v;rw[J] at z;generalize F:a.eval x=ai at v;generalize G:a.eval y=aj at z;have plain:∀(b q:Nat)(u:Value),jt w b q=(I u,I (0,0))->∃c T,w.heap[b]? =I (.cells c T (0,0)):=λb q u h=>by
        have j:=congrArg Prod.snd h;simp only[jt] at j;split at j
        . rename_i c T f L;simp only[aC] at j;subst j;exact⟨c,T,L⟩
        . cases j
       cases v with
       |cq _ g k af W an c1 _ _=>
        cases z with
        |cq _ i l ah X bP c2 _ _=>
         obtain⟨ak,Z,aD⟩:=plain _ _ _ (c1 0 W);obtain⟨al,aa,ba⟩:=plain _ _ _ (c2 0 X);have r:∃b:Bool,(sameAddr ⟨g,k,ag⟩ ⟨i,l,ag⟩).run P w=.ok b w:=by
          by_cases A:(⟨g,k,ag⟩:Addr)=⟨i,l,ag⟩
          . exact⟨U,by rw[A];simp[run_sameAddr_same]⟩
          . exact⟨ad,run_sameAddr_other w A aD ba⟩
         obtain⟨b,r⟩:=r;have B:(Op.equalIn (9999+1) t (.pointer (I ⟨g,k,ag⟩)) (.pointer (I ⟨i,l,ag⟩))).run P w=.ok b w:=by rw[Op.equalIn];simp[dC R,fP M,N,r]
         have K:∀(p q:Operand),(eqGuard op t p q (.pointer (I ⟨g,k,ag⟩)) (.pointer (I ⟨i,l,ag⟩))).run P w=.ok () w:=λp q=>pQ op t p q _ _ (by simp) (by simp) w;refine⟨b !=neg,?_⟩;have E:(binOp op t (.pointer (I ⟨g,k,ag⟩)) (.pointer (I ⟨i,l,ag⟩))).run P w=.ok (.bool (b !=neg)) w:=by
          rcases Q with⟨rfl,rfl⟩|⟨rfl,rfl⟩
          . show(do pure (.bool (<-Op.equal t _ _)):Sem Value).run P w=_;simp[r9,B]
          . show(do pure (.bool (!(<-Op.equal t _ _))):Sem Value).run P w=_;simp[r9,B]
         simp only[execOp,O,Sem.run_bind,F,G,K,Result.andThen_ok,E];simp
     . cases m
   . cases d
 . cases d
def MA(h:bW w0 Γ0 n w Γ s M a){o:Oper}{aH aI:Bool}{op:cH}(ae:fC P aH aI o.type o.op=I op)(G:∀d,o.dst=I d->d<n){O:Bool}{K:av->Mem->Prop}(c:wpOp P ad op o.dst O s M K)
 {next:Act->World->Prop}{Q:Exit->Act->World->Prop}(H:∀J g am p X,bW w0 Γ0 n p X J g am->K J g->next am p):o.wp P a w next Q:=by
 have aa:=Qg h.e1 h.fD ae;by_cases ap:op.hX=U
 . have ak:∀(f:Nat)(args:List V)(Y:Array Value),(∀p,qJ P f=U->(execOp a.eval o).run P p=.ok (.enter f Y) p)->dz w Γ args Y->lW P ad f args M (λv g=>i4 s o.dst O v (λJ=>K J g))->o.wp P a w next Q:=by
    intro f args Y q z ab;have ab:bx P f args M (λv g=>i4 s o.dst O v (λJ=>K J g)):=ab;unfold Oper.wp;rw[q w ab.1,Oper.upon_enter];refine(ab.2 w Γ Y h.e1 z).mono ?_;rintro e p ⟨v,R,X,g,rfl,L,k,E,C⟩;exact H _ _ _ _ _ ((h.nd E C).put k G) (Kv L)
   rcases aby ae ap with⟨f,args,aJ,au,F,N,rfl⟩|⟨ao,args,aJ,y,au,F,aF,N,rfl⟩
   . have z:=xI h.fD N;have af:(args.toList.map a.eval).toArray=args.map a.eval:=Array.ext' (by simp);rw[af] at z;exact ak f _ _ (λp D=>R5 F D p) z c
   . have z:=xI h.fD N;have af:(args.toList.map a.eval).toArray=args.map a.eval:=Array.ext' (by simp);rw[af] at z;have T:=du h.fD aF;have c:kj P ad (aw s y) (d5 s au) M (λv g=>i4 s o.dst O v (λJ=>K J g)):=c;unfold kj at c;split at c
     . rename_i f ay k;rw[k] at T;generalize S:a.eval ao=an at T;cases T with
       |cI _ _ R W aQ ai=>exact ak f _ _ (λp D=>D3 F S D p) (z.append ⟨W,ai⟩) c
     . rename_i f ay k;rw[k] at T;generalize S:a.eval ao=an at T;cases T with
       |fn _ _ R W ai=>exact ak f _ _ (λp D=>D3 F S D p) (z.append ⟨W,ai⟩) c
     . exact c.elim
 . by_cases aq:∃y,op=.n2 y
   . obtain⟨y,rfl⟩:=aq;obtain⟨x,F,N⟩:=abz ae;have c:oi (aw s y) M (λv g=>K (a4 s o.dst v) g):=c;have A:=du h.fD N;generalize aP:aw s y=aL at c A;cases aL with
     |ptr id off=>
      cases off with
      |succ _=>exact c.elim
      |zero=>
      simp only[oi] at c;cases Z:M[id]? with
      |none=>simp only[Z] at c
      |some B=>
       cases B with
       |iter mid n seen=>
        simp only[Z] at c;cases u:M[mid]? with
        |none=>simp only[u] at c
        |some ax=>
         cases ax with
         |map aN=>
          simp only[u] at c;obtain⟨ah,aA,aC⟩:=c;generalize S:a.eval x=an at A;cases A with
          |ptr _ _ l W aO k=>
           unfold Oper.wp;rcases ZZ (P:=P) h.e1 W Z u ah o.type with⟨az,q⟩|⟨i,aG,R,p,X,aB,aD,q,z,E,C⟩
           . have q:(execOp a.eval o).run P w=.ok (.value (.tuple #[.bool ad])) w:=by simp[execOp,F,S,q]
             rw[q,Oper.upon_value];exact H _ _ _ _ _ (h.put (.tuple _ _ rfl λj x A=>by
              match j,A with
              |0,A=>simp at A;subst A;exact .bool ad) G) (aA az)
           . have q:(execOp a.eval o).run P w=.ok (.value R) p:=by simp[execOp,F,S,q]
             rw[q,Oper.upon_value];exact H _ _ _ _ _ ((h.nd E C).put z G) (aC i aG aB aD)
         |_=>simp only[u] at c
       |_=>simp only[Z] at c
     |_=>exact c.elim
   have aK:∀v g,gP P w Γ a o v g->K (a4 s o.dst v) g->o.wp P a w next Q:=by
    rintro v g ⟨r,p,X,q,aj,E,C⟩ L;unfold Oper.wp;rw[q];rcases aj with⟨R,rfl,k⟩|⟨rfl,rfl⟩
    . rw[Oper.upon_value];exact H _ _ _ _ _ ((h.nd E C).put k G) L
    . rw[Oper.upon_skip];exact H _ _ _ _ _ ((h.nd E C).put (.undef _) G) L
   by_cases ar:∃n x y,op=.lO n x y
   . obtain⟨n,x,y,rfl⟩:=ar;have c:pk n (aw s x) (aw s y) M (λv g=>K (a4 s o.dst v) g):=c;unfold pk at c;cases D:sg (aw s x) (aw s y) with
     |true=>rw[D] at c;simp only at c;obtain⟨aM,t,aS,aT,aR,F,aE,A,N,ah⟩:=abA ae;obtain⟨b,q⟩:=aan h.fD F A N aE ah D;unfold Oper.wp;rw[q,Oper.upon_value];exact H _ _ _ _ _ (h.put (.bool b) G) (match b with|true=>c.1|false=>c.2)
     |false=>
      rw[D] at c;simp only at c;unfold ps at c;split at c
      . rename_i v g k;exact aK v g (aa.1 rfl v g k) c
      . exact c.elim
   have al:∀v g,gP P w Γ a o v g->K (a4 s o.dst v) g->o.wp P a w next Q:=by
    rintro v g ⟨r,p,X,q,aj,E,C⟩ L;unfold Oper.wp;rw[q];rcases aj with⟨R,rfl,k⟩|⟨rfl,rfl⟩
    . rw[Oper.upon_value];exact H _ _ _ _ _ ((h.nd E C).put k G) L
    . rw[Oper.upon_skip];exact H _ _ _ _ _ ((h.nd E C).put (.undef _) G) L
   have m:(match op.gb with
    |true=>ps (kw op s M) (λv g=>K (a4 s o.dst v) g)
    |false=>
     match O with
     |true=>pp (gv op s M) (λb=>K (a4 s o.dst (.bool b)) M)
     |false=>hC (gv op s M) (λv=>K (a4 s o.dst v) M)):=by
    cases O<;>cases op<;>first|exact c|(exfalso;exact ap rfl)|(exfalso;exact aq ⟨_,rfl⟩)|(exfalso;exact ar ⟨_,_,_,rfl⟩)
   cases u:op.gb with
   |true=>
    simp only[u] at m;unfold ps at m;split at m
    . rename_i v g k;exact al v g (aa.1 u v g k) m
    . exact m.elim
   |false=>
    simp only[u] at m;cases O with
    |true=>
     simp only at m;unfold pp at m;split at m
     . rename_i b k;exact al _ M (aa.2 u _ k).1 m
     . exact m.elim
    |false=>
     simp only at m;unfold hC at m;split at m
     . rename_i v k;exact al _ M (aa.2 u _ k).1 m
     . exact m.elim
def zK{α:Type}{l:List α}{k:Nat}{x:α}{a:List α}(h:l.drop k=x::a):l[k]? =I x/\l.drop (k+1)=a:=by have b:=congrArg (·[0]?) h;have c:=congrArg (List.drop 1) h;exact⟨by simpa using b,by simpa[Nat.add_comm] using c⟩
theorem MB{i:Array Oper}{mu:List Nat}{Q:Exit->Act->World->Prop}{K:av->Mem->Prop}(J:∀h p v A H,bW w0 Γ0 n A H h p v->K h p->Q .normal v A):
 ∀(m:List Oper)(k:Nat)(aK:List bg)(s:av)(M:Mem)(a:Act)(w:World)(Γ:Env),i.toList.drop k=m->mC P n mu i k m=I aK->bW w0 Γ0 n w Γ s M a->wpOps P ad aK s M K->
 Go.wpOps P i Q (List.range' k m.length) a w
 |[],k,aK,s,M,a,w,Γ,R,l,e,f=>by simp only[mC,aC] at l;subst l;exact J s M a w Γ e f
 |o::m,k,aK,s,M,a,w,Γ,R,l,e,f=>by
  simp only[mC] at l;split at l
  . rename_i ak B X Y;simp only[aC] at l;subst l;obtain⟨op,g,af,r,rfl,L⟩:=Bk X;obtain⟨ab,ah⟩:=zK R;have O:i[k]? =I o:=by simpa using ab
    have S:=λs M a w Γ=>MB J m (k+1) B s M a w Γ ah Y;have run:∀h,bW w0 Γ0 n w Γ h M a->wpOp P ad op o.dst (vv P o.type) h M (λh p=>wpOps P ad B h p K)->Region.wanted o (yielded i a.tmps)=U->Go.wpOps P i Q (k::List.range' (k+1) m.length) a w:=by intro h C E F;simp only[Go.wpOps,O,F,if_true];exact .inl (MA C af L E (λaj p v A H ai Z=>S aj p v A H ai Z))
    have skip:∀h,bW w0 Γ0 n w Γ h M a->wpOps P ad B (a4 h o.dst (.tuple [])) M K->Region.wanted o (yielded i a.tmps)=ad->Go.wpOps P i Q (k::List.range' (k+1) m.length) a w:=by intro h C E F;simp only[Go.wpOps,O,F,gX,if_false];exact S _ _ _ _ _ (C.put KH L) E
    rw[cc,List.range'_succ];cases t:o.guard with
    |none=>rw[t] at r;simp only[sG,aC] at r;subst r;simp only[wpOps] at f;exact run s e f (by simp[Region.wanted,t])
    |some W=>
     obtain⟨j,T⟩:=W;rw[t] at r;simp only[sG,cL] at r;obtain⟨d,N,rfl⟩:=r;simp only[wpOps] at f;have u:=e.fD d;split at f
     . rename_i b x;rw[x] at u;have D:=nl u rfl;have G:=MD N e.size D;have z:Region.wanted o (yielded i a.tmps)=(b==T):=by simp[Region.wanted,t,G]
       have y:∀c,b=c->bW w0 Γ0 n w Γ (dQ s d (.bool c)) M a:=λc aa=>⟨e.e1,Lg e.fD (by rw[x,aa]),e.size,e.defers,e.ext⟩;cases T with
       |true=>
        cases b with
        |true=>exact run _ (y U rfl) f (by rw[z];rfl)
        |false=>exact skip _ (y ad rfl) f (by rw[z];rfl)
       |false=>
        cases b with
        |true=>exact skip _ (y U rfl) f (by rw[z];rfl)
        |false=>exact run _ (y ad rfl) f (by rw[z];rfl)
     . rename_i x;rw[x] at u;have D:a.tmps.getD d Go.undef=.tuple #[]:=by
        generalize a.tmps.getD d Go.undef=q at u;cases u with
        |tuple _ V ae=>have:V=#[]:=Array.size_eq_zero_iff.1 (by simpa using ae);rw[this]
       have G:=ME N e.size D;exact skip s e f (by simp[Region.wanted,t,G])
     . exact f.elim
  . cases l
end
def me{a b:Nat}:ha a b=U↔a<b:=by rw[Nat.blt_eq]
section
variable{s bP:av}
theorem da{x:aA}(h:∀t∈x.b3,aE s t=aE bP t):aw s x=aw bP x:=by
 cases x with
 |tmp t=>exact h t (by simp[aA.b3])
 |const v=>rfl
theorem tK{x:Option aA}(h:∀t∈su x,aE s t=aE bP t):dO s x=dO bP x:=by
 cases x with
 |none=>rfl
 |some x=>simp only[dO,da (x:=x) h]
theorem sb:∀{xs:List aA},(∀t∈ss xs,aE s t=aE bP t)->d5 s xs=d5 bP xs
 |[],_=>rfl
 |x::xs,h=>by simp only[d5,da (x:=x) λt a=>h t (by simp[ss,a]),sb (xs:=xs) λt a=>h t (by simp[ss,a])]
theorem w7:∀{xs:List (Nat×Nat×aA)},(∀t∈sv xs,aE s t=aE bP t)->iB s xs=iB bP xs
 |[],_=>rfl
 |(a,b,x)::xs,h=>by simp only[iB,da (x:=x) λt c=>h t (by simp[sv,c]),w7 (xs:=xs) λt c=>h t (by simp[sv,c])]
def Kr{o:cH}{M:Mem}(h:∀t∈o.b3,aE s t=aE bP t):gv o s M=gv o bP M:=by
 cases o<;>simp only[gv]<;>simp only[cH.b3,dv] at h
 case gG x=>rw[da h]
 case pick c a b=>rw[da (x:=c) λt d=>h t (.inl d),da (x:=a) λt d=>h t (.inr (.inl d)),da (x:=b) λt d=>h t (.inr (.inr d))]
 case build z l=>rw[w7 h]
 case buildSlice z a b l=>rw[w7 h]
 case load n p a=>rw[da h]
 case nilCheck x=>rw[da h]
 case cp op k x y=>rw[da (x:=x) λt d=>h t (.inl d),da (x:=y) λt d=>h t (.inr d)]
 case un op x=>rw[da h]
 case conv k x=>rw[da h]
 case pD x=>rw[da h]
 case nN x=>rw[da h]
 case jQ f q=>rw[sb h]
 case slice r x g e j=>rw[da (x:=x) λt d=>h t (.inl d),tK (x:=g) λt d=>h t (.inr (.inl d)),tK (x:=e) λt d=>h t (.inr (.inr (.inl d))),tK (x:=j) λt d=>h t (.inr (.inr (.inr d)))]
 case qe x g e=>rw[da (x:=x) λt d=>h t (.inl d),tK (x:=g) λt d=>h t (.inr (.inl d)),tK (x:=e) λt d=>h t (.inr (.inr d))]
 case fieldAddr off x=>rw[da h]
 case field a b c x=>rw[da h]
 case eM a b x i=>rw[da (x:=x) λt d=>h t (.inl d),da (x:=i) λt d=>h t (.inr d)]
 case gq a x i=>rw[da (x:=x) λt d=>h t (.inl d),da (x:=i) λt d=>h t (.inr d)]
 case mq x i=>rw[da (x:=x) λt d=>h t (.inl d),da (x:=i) λt d=>h t (.inr d)]
 case oP a b c x i=>rw[da (x:=x) λt d=>h t (.inl d),da (x:=i) λt d=>h t (.inr d)]
 case nX x=>rw[da h]
 case k4 x=>rw[da h]
 case k7 j x y=>rw[da (x:=x) λt d=>h t (.inl d),da (x:=y) λt d=>h t (.inr d)]
 case extract x i=>rw[da h]
 case lookup c z a b m k=>rw[da (x:=m) λt d=>h t (.inl d),da (x:=k) λt d=>h t (.inr d)]
end
section
variable{P:Program}{w0 w:World}{Γ0 Γ:Env}{M:Mem}{s:av}{a:Act}{n:Nat}
theorem ra{c:Option Nat}{a:Bool}{v:V}{K:av->Prop}:i4 s c a v K↔(a=U->∃b,v=.bool b)/\K (a4 s c v):=by
 cases a with
 |false=>simp[i4]
 |true=>
  constructor
  . intro h;refine⟨λ_=>?_,Kv h⟩;simp only[i4,pp] at h;split at h
    . rename_i b d;simp only[aC] at d;exact⟨b,d⟩
    . exact h.elim
  . rintro⟨h,e⟩;obtain⟨b,rfl⟩:=h rfl;exact e
theorem s4{q:Bool}{op:cH}{a:Option Nat}{d:Bool}{K:av->Mem->Prop}(j:op.gb=ad)(i:op.hX=ad):
 wpOp P q op a d s M K↔∃v,gv op s M=I v/\(d=U->∃b,v=.bool b)/\K (a4 s a v) M:=by
 have e:wpOp P q op a d s M K=(match d with
  |true=>pp (gv op s M) (λb=>K (a4 s a (.bool b)) M)
  |false=>hC (gv op s M) (λv=>K (a4 s a v) M)):=by
  cases op<;>first|rfl|(simp[cH.hX] at i;done)|(simp[cH.gb] at j;done)
 rw[e];cases d with
 |true=>
  simp only;constructor
  . intro h;unfold pp at h;split at h
    . rename_i b f;exact⟨_,f,λ_=>⟨b,rfl⟩,h⟩
    . exact h.elim
  . rintro⟨v,c,f,g⟩;obtain⟨b,rfl⟩:=f trivial;rw[c];exact g
 |false=>
  simp only;constructor
  . intro h;unfold hC at h;split at h
    . rename_i v c;exact⟨_,c,(λe=>by cases e),h⟩
    . exact h.elim
  . rintro⟨v,c,_,g⟩;rw[c];exact g
def jl(r:av)(M:Mem)(b:av)(a:Mem):Prop:=(∀t,aE b t=aE r t)/\a=M
def po(P:Program)(op:cH)(a:Option Nat)(b:Bool)(s r:av)(M:Mem)(v:V):Prop:=
 wpOp P ad op a b s M (jl (a4 r a v) M)
theorem fZ(a:Option Nat)(x:V)(t:Nat):aE (a4 s a x) t=if a=I t then x else aE s t:=by
 cases a with
 |none=>simp[a4]
 |some d=>
  simp only[a4,j4,aC];by_cases h:t=d
  . simp[h]
  . rw[ax h,ax (cA h)]
def x6{a:Option Nat}{r bP c:av}{v d:V}(h:∀t,aE (a4 s a d) t=aE (a4 r a v) t)(e:∀t,aE bP t=aE c t):∀t,aE (a4 bP a d) t=aE (a4 c a v) t:=by
 intro t;have:=h t;rw[fZ,fZ] at this⊢;split
 . rename_i b;rw[aF b,aF b] at this;exact this
 . exact e t
theorem po.move{op:cH}{a:Option Nat}{g:Bool}{r bP r2:av}{v:V}(q:op.gb=ad)(h:po P op a g s r M v)(b:∀t∈op.b3,aE s t=aE bP t)(l:∀t,aE bP t=aE r2 t):po P op a g bP r2 M v:=by
 unfold po at*;cases m:op.hX with
 |false=>rw[s4 q m] at*;obtain⟨c,n,p,o,_⟩:=h;exact⟨c,by rw[<-Kr b];exact n,p,x6 o l,rfl⟩
 |true=>
  have key:∀(f:Nat)(args:List V),lW P ad f args M (λc d=>i4 s a g c (λk=>jl (a4 r a v) M k d))->lW P ad f args M (λc d=>i4 bP a g c (λk=>jl (a4 r2 a v) M k d)):=λf args h=>bx.mono h λc d e=>by rw[ra] at e⊢;exact⟨e.1,x6 e.2.1 l,e.2.2⟩
  cases op<;>simp only[cH.hX,gX] at m
  case call f args=>simp only[cH.b3] at b;have h:lW P ad f (d5 s args) M _:=h;rw[sb b] at h;exact key _ _ h
  case fM i args=>
   simp only[cH.b3,dv] at b;have h:kj P ad (aw s i) (d5 s args) M _:=h;rw[sb (xs:=args) λt j=>b t (.inr j),da (x:=i) λt j=>b t (.inl j)] at h;show kj P ad (aw bP i) (d5 bP args) M _;unfold kj at h⊢;split at h
   . exact key _ _ h
   . exact key _ _ h
   . exact h.elim
theorem Mz{op:cH}{a:Option Nat}{e:Bool}{K:av->Mem->Prop}(l:op.gb=ad)(h:wpOp P U op a e s M K):∃v,po P op a e s s M v/\K (a4 s a v) M:=by
 cases i:op.hX with
 |false=>rw[s4 l i] at h;obtain⟨v,b,n,o⟩:=h;refine⟨v,?_,o⟩;unfold po;rw[s4 l i];exact⟨v,b,n,λ_=>rfl,rfl⟩
 |true=>
  have key:∀(f:Nat)(args:List V),lW P U f args M (λv d=>i4 s a e v (λk=>K k d))->∃v,lW P ad f args M (λp d=>i4 s a e p (λk=>jl (a4 s a v) M k d))/\K (a4 s a v) M:=by rintro f args ⟨v,b,c⟩;rw[ra] at c;refine⟨v,bx.mono b ?_,c.2⟩;rintro x d ⟨rfl,rfl⟩;rw[ra];exact⟨c.1,λ_=>rfl,rfl⟩
  cases op<;>simp only[cH.hX,gX] at i
  case call f args=>exact key f _ h
  case fM g args=>
   have h:kj P U (aw s g) (d5 s args) M _:=h;unfold kj at h;split at h
   . rename_i f m j;obtain⟨v,b,c⟩:=key _ _ h;exact⟨v,(by show kj P ad (aw s g) (d5 s args) M _;unfold kj;rw[j];exact b),c⟩
   . rename_i f m j;obtain⟨v,b,c⟩:=key _ _ h;exact⟨v,(by show kj P ad (aw s g) (d5 s args) M _;unfold kj;rw[j];exact b),c⟩
   . exact h.elim
def e7(P:Program)(o:bg)(s:av)(M:Mem)(v:V):Prop:=f8 P ad o s M (jl (a4 s o.dst v) M)
theorem sQ{g:Nat}{x:V}(h:aE s g=x)(t:Nat):aE (dQ s g x) t=aE s t:=by
 rw[j4];split
 . rename_i e;rw[e,h]
 . rfl
def BG{r:av}(h:∀t,aE s t=aE r t)(a:Option Nat)(x:V)(t:Nat):aE (a4 s a x) t=aE (a4 r a x) t:=by rw[fZ,fZ,h t]
theorem e7.move{o:bg}{bP:av}{v:V}(k:o.op.gb=ad)(h:e7 P o s M v)(i:∀t∈o.b3,aE s t=aE bP t):e7 P o bP M v:=by
 obtain⟨a,op,l,g⟩:=o;cases g with
 |none=>exact po.move (r:=s) k h i (λ_=>rfl)
 |some m=>
  obtain⟨g,p⟩:=m;have f:aE s g=aE bP g:=i g (by simp[bg.b3]);have n:∀t∈op.b3,aE s t=aE bP t:=λt j=>i t (by simp[bg.b3,j]);unfold e7 f8 at h⊢;simp only at h⊢;rw[<-f];split at h
  . rename_i b e;have skip:∀c,aE s g=.bool c->jl (a4 s a v) M (a4 (dQ s g (.bool c)) a (.tuple [])) M->jl (a4 bP a v) M (a4 (dQ bP g (.bool c)) a (.tuple [])) M:=λc d h=>
     ⟨x6 h.1 (λt=>sQ (by rw[<-f,d]) t),rfl⟩;have run:∀c,aE s g=.bool c->wpOp P ad op a l (dQ s g (.bool c)) M (jl (a4 s a v) M)->wpOp P ad op a l (dQ bP g (.bool c)) M (jl (a4 bP a v) M):=λc d h=>
     po.move (r:=s) (r2:=bP) k h (λt j=>by rw[sQ d,sQ (by rw[<-f,d])];exact n t j) (λt=>sQ (by rw[<-f,d]) t);cases p<;>cases b
    . exact run _ e h
    . exact skip _ e h
    . exact skip _ e h
    . exact run _ e h
  . exact⟨x6 h.1 (λ_=>rfl),rfl⟩
  . exact h.elim
theorem Cc{o:bg}{K:av->Mem->Prop}(n:o.op.gb=ad)(h:f8 P U o s M K):∃v e,e7 P o s M v/\(∀t,aE e t=aE (a4 s o.dst v) t)/\K e M:=by
 obtain⟨d,op,j,g⟩:=o;cases g with
 |none=>obtain⟨v,f,i⟩:=Mz n h;exact⟨v,_,f,λ_=>rfl,i⟩
 |some p=>
  obtain⟨g,l⟩:=p;unfold f8 at h;simp only at h;split at h
  . rename_i b a;have run:∀c,aE s g=.bool c->wpOp P U op d j (dQ s g (.bool c)) M K->∃v e,wpOp P ad op d j (dQ s g (.bool c)) M (jl (a4 s d v) M)/\(∀t,aE e t=aE (a4 s d v) t)/\K e M:=λc k h=>by
     obtain⟨v,f,i⟩:=Mz n h;exact⟨v,_,po.move (r:=dQ s g (.bool c)) (r2:=s) n f (λ_ _=>rfl) (λt=>sQ k t),BG (λt=>sQ k t) _ _,i⟩
    have fin:∀v,f8 P ad ⟨d,op,j,I (g,l)⟩ s M (jl (a4 s d v) M)->e7 P ⟨d,op,j,I (g,l)⟩ s M v:=λ_ h=>h;have skip:∀c,aE s g=.bool c->∀t,aE (a4 (dQ s g (.bool c)) d (.tuple [])) t=aE (a4 s d (.tuple [])) t:=λc k=>BG (λt=>sQ k t) _ _;cases l<;>cases b<;>simp only[ir] at h
    . obtain⟨v,e,f,i,m⟩:=run _ a h;exact⟨v,e,fin v (by simp only[f8,a,ir];exact f),i,m⟩
    . exact⟨.tuple [],_,fin _ (by simp only[f8,a,ir];exact⟨skip _ a,rfl⟩),skip _ a,h⟩
    . exact⟨.tuple [],_,fin _ (by simp only[f8,a,ir];exact⟨skip _ a,rfl⟩),skip _ a,h⟩
    . obtain⟨v,e,f,i,m⟩:=run _ a h;exact⟨v,e,fin v (by simp only[f8,a,ir];exact f),i,m⟩
  . rename_i a;refine⟨.tuple [],_,?_,λ_=>rfl,h⟩;show f8 P ad ⟨d,op,j,I (g,l)⟩ s M _;simp only[f8,a];exact⟨λ_=>rfl,rfl⟩
  . exact h.elim
theorem rB{k:Array Oper}{i:Nat}{o:Oper}{D:bg}{W:List Nat}(H:k[i]? =I o)(V:o_ P n W k i o=I D)(e:bW w0 Γ0 n w Γ s M a){K:av->Mem->Prop}(h:f8 P ad D s M K)
 {next:Act->World->Prop}{Q:Exit->Act->World->Prop}(G:∀f B C J X,bW w0 Γ0 n J X f B C->K f B->next C J):Go.wpOp P k Q i next a w:=by
 obtain⟨op,g,T,l,rfl,E⟩:=Bk V;have run:∀f,bW w0 Γ0 n w Γ f M a->wpOp P ad op o.dst (vv P o.type) f M K->Region.wanted o (yielded k a.tmps)=U->Go.wpOp P k Q i next a w:=by intro f v y z;unfold Go.wpOp;simp only[H,z,if_true];exact .inl (MA v T E y G)
 have skip:∀f,bW w0 Γ0 n w Γ f M a->K (a4 f o.dst (.tuple [])) M->Region.wanted o (yielded k a.tmps)=ad->Go.wpOp P k Q i next a w:=by intro f v y z;unfold Go.wpOp;simp only[H,z,gX,if_false];exact G _ _ _ _ _ (v.put KH E) y
 cases m:o.guard with
 |none=>rw[m] at l;simp only[sG,aC] at l;subst l;exact run s e h (by simp[Region.wanted,m])
 |some O=>
  obtain⟨j,L⟩:=O;rw[m] at l;simp only[sG,cL] at l;obtain⟨d,F,rfl⟩:=l;simp only[f8] at h;have p:=e.fD d;split at h
  . rename_i b r;rw[r] at p;have x:=nl p rfl;have A:=MD F e.size x;have u:Region.wanted o (yielded k a.tmps)=(b==L):=by simp[Region.wanted,m,A]
    have t:∀c,b=c->bW w0 Γ0 n w Γ (dQ s d (.bool c)) M a:=λc R=>⟨e.e1,Lg e.fD (by rw[r,R]),e.size,e.defers,e.ext⟩;cases L with
    |true=>
     cases b with
     |true=>exact run _ (t U rfl) h (by rw[u];rfl)
     |false=>exact skip _ (t ad rfl) h (by rw[u];rfl)
    |false=>
     cases b with
     |true=>exact skip _ (t U rfl) h (by rw[u];rfl)
     |false=>exact run _ (t ad rfl) h (by rw[u];rfl)
  . rename_i r;rw[r] at p;have x:a.tmps.getD d Go.undef=.tuple #[]:=by
     generalize a.tmps.getD d Go.undef=q at p;cases p with
     |tuple _ N S=>have:N=#[]:=Array.size_eq_zero_iff.1 (by simpa using S);rw[this]
    have A:=ME F e.size x;exact skip s e h (by simp[Region.wanted,m,A])
  . exact h.elim
def l_(P:Program)(M:Mem):List bg->List V->av->av->Prop
 |o::b,v::c,s,a=>e7 P o s M v/\o.op.gb=ad/\l_ P M b c (a4 s o.dst v) a
 |[],[],s,a=>∀t,aE a t=aE s t
 |_,_,_,_=>False
theorem l_.move:∀{b:List bg}{d:List V}{s bP c:av},l_ P M b d s c->(∀t,aE s t=aE bP t)->l_ P M b d bP c
 |o::b,v::d,s,bP,c,h,a=>⟨h.1.move h.2.1 (λt _=>a t),h.2.1,l_.move h.2.2 (λt=>BG a _ _ t)⟩
 |[],[],s,bP,c,h,a=>λt=>(h t).trans (a t)
 |o::b,[],_,_,_,h,_=>h.elim
 |[],v::d,_,_,_,h,_=>h.elim
theorem AP{K:av->Mem->Prop}:∀(a:List bg)(b:List Bool)(s:av),a.length=b.length->p2 b a=U->qj P a b s M K->
 ∃(c:Nat)(g:List V)(e:av),c<=a.length/\g.length=c/\l_ P M (a.take c) g s e/\
  ((c=a.length/\K e M)∨(∃o,a[c]? =I o/\b[c]? =I ad/\f8 P ad o e M (λj k=>qj P (a.drop (c+1)) (b.drop (c+1)) j k K)))
 |[],[],s,_,_,h=>⟨0,[],s,bk _,rfl,λ_=>rfl,.inl ⟨rfl,h⟩⟩
 |o::a,ad::b,s,_,_,h=>⟨0,[],s,c_ _,rfl,λ_=>rfl,.inr ⟨o,rfl,rfl,h⟩⟩
 |o::a,U::b,s,d,f,h=>by
  simp only[p2,Bool.not_true,Bool.false_or,bL,hM] at f;obtain⟨v,j,l,m,n⟩:=Cc f.1 h;obtain⟨c,g,e,y,w,u,i⟩:=AP a b j (by simpa using d) f.2 n;refine⟨c+1,v::g,e,by simp;omega,by simp[w],⟨l,f.1,u.move m⟩,?_⟩;rcases i with⟨rfl,i⟩|⟨x,p,r,t⟩
  . exact .inl ⟨rfl,i⟩
  . exact .inr ⟨x,by simpa using p,by simpa using r,by simpa using t⟩
 |[],q::b,s,d,_,_=>by simp at d
 |o::a,[],s,d,_,_=>by simp at d
def hm(L:Nat->Bool):Nat->List bg->List V->av->av
 |j,o::a,v::b,s=>hm L (j+1) a b (bif L j then a4 s o.dst v else s)
 |_,_,_,s=>s
theorem wv{L L':Nat->Bool}{t:Nat}:∀(a:List bg)(d:List V)(j:Nat)(s c:av),aE s t=aE c t->(∀i o,a[i]? =I o->o.dst=I t->L (j+i)=L' (j+i))->aE (hm L j a d s) t=aE (hm L' j a d c) t
 |[],_,_,s,c,h,_=>by simpa[hm] using h
 |o::a,[],_,s,c,h,_=>by simpa[hm] using h
 |o::a,v::d,j,s,c,h,e=>by
  simp only[hm];refine wv a d (j+1) _ _ ?_ (λi g f b=>by have:=e (i+1) g (by simpa using f) b;rwa [<-jg,Nat.add_right_comm] at this);by_cases b:o.dst=I t
  . have:=e 0 o rfl b;rw[g_] at this;rw[this];cases L' j
    . exact h
    . simp only[bi,fZ,b,if_true]
  . cases L j<;>cases L' j<;>simp only[bi,eE,fZ,ax b]<;>exact h
theorem CT{L:Nat->Bool}{t:Nat}{o:bg}{v:V}:∀(a:List bg)(b:List V)(j i:Nat)(s:av),a[i]? =I o->b[i]? =I v->o.dst=I t->L (j+i)=U->(∀k c,i<k->a[k]? =I c->c.dst=I t->L (j+k)=ad)->aE (hm L j a b s) t=v
 |[],_,_,i,_,h,_,_,_,_=>by simp at h
 |c::a,[],_,i,_,_,h,_,_,_=>by simp at h
 |c::a,m::b,j,0,s,h,d,f,e,g=>by
  simp only[hg,aC] at h d;subst h;subst d;simp only[hm];rw[g_] at e;rw[e];have:=wv (L:=L) (L':=λ_=>ad) (t:=t) a b (j+1) (a4 s c.dst m) (a4 s c.dst m) rfl (λi x n l=>by have:=g (i+1) x J (by simpa using n) l;rwa [<-jg,Nat.add_right_comm] at this);simp only[bi,this];have ag:∀(a:List bg)(b:List V)(j:Nat)(s:av),hm (λ_=>ad) j a b s=s:=by
   intro a;induction a with
   |nil=>intro b j s;simp[hm]
   |cons o a q=>
    intro b j s;cases b with
    |nil=>simp[hm]
    |cons v b=>simp only[hm,eE,q]
  rw[ag,fZ,aF f]
 |c::a,m::b,j,i+1,s,h,d,f,e,g=>by simp only[hm];exact CT a b (j+1) i _ (by simpa using h) (by simpa using d) f (by rwa [Nat.add_right_comm,jg]) (λk x r l p=>by have:=g (k+1) x J (by simpa using l) p;rwa [<-jg,Nat.add_right_comm] at this)
theorem ww:∀(a:List bg)(b:List V)(j:Nat)(s:av)(t:Nat)(L:Nat->Bool),(∀i,i<a.length->L (j+i)=ad)->aE (hm L j a b s) t=aE s t
 |[],_,_,s,t,_,_=>by simp[hm]
 |o::a,[],_,s,t,_,_=>by simp[hm]
 |o::a,v::b,j,s,t,L,h=>by simp only[hm];rw[ww a b (j+1) _ t L (λi c=>by have:=h (i+1) (by simp;omega);rwa [<-jg,Nat.add_right_comm] at this)];have:=h 0 (by simp);rw[g_] at this;rw[this];rfl
theorem l_.at{p:av}:∀{b:List bg}{c:List V}{s:av},l_ P M b c s p->∀(i j:Nat)(o:bg),b[i]? =I o->∃v,c[i]? =I v/\o.op.gb=ad/\∃d,e7 P o d M v/\∀t,aE (hm (λk=>decide (k<j+i)) j b c s) t=aE d t
 |o::b,v::c,s,h,0,j,f,a=>by simp only[hg,aC] at a;subst a;refine⟨v,rfl,h.2.1,s,h.1,λt=>?_⟩;rw[ww];intro i _;simp
 |o::b,v::c,s,h,i+1,j,f,a=>by
  obtain⟨q,g,l,d,m,n⟩:=l_.at h.2.2 i (j+1) f (by simpa using a);refine⟨q,by simpa using g,l,d,m,λt=>?_⟩;rw[<-n t];simp only[hm];have:decide (j<j+(i+1))=U:=by simp
  rw[this];have e:(λk=>decide (k<j+(i+1)))=λk=>decide (k<j+1+i):=by funext k;congr 1;rw[jg,Nat.add_comm 1 i]
  rw[e];rfl
 |[],[],s,h,i,j,f,a=>by simp at a
 |[],v::c,_,h,_,_,_,_=>h.elim
 |o::b,[],_,h,_,_,_,_=>h.elim
theorem l_.fin{d:av}:∀{a:List bg}{b:List V}{s:av},l_ P M a b s d->∀(j:Nat)(L:Nat->Bool),(∀i,i<a.length->L (j+i)=U)->∀t,aE (hm L j a b s) t=aE d t
 |o::a,v::b,s,h,j,L,c,t=>by simp only[hm];have:=c 0 (by simp);rw[g_] at this;rw[this];exact l_.fin h.2.2 (j+1) L (λi e=>by have:=c (i+1) (by simp;omega);rwa [<-jg,Nat.add_right_comm] at this) t
 |[],[],s,h,j,L,_,t=>by simpa[hm] using(h t).symm
 |[],v::b,_,h,_,_,_,_=>h.elim
 |o::a,[],_,h,_,_,_,_=>h.elim
def Zp{b:List Nat}{o:Oper}{j:Nat}(h:(vB b o).testBit j=U):∃e∈o.after,Region.binds .any e=U/\(e.on=j∨(b.getD e.on 0).testBit j=U):=by
 have key:∀(l:List Edge)(s:Nat),(l.foldl (λs e=>bif Region.binds .any e then(s|||2^e.on)|||b.getD e.on 0 else s) s).testBit j=U->s.testBit j=U∨∃e∈l,Region.binds .any e=U/\(e.on=j∨(b.getD e.on 0).testBit j=U):=by
  intro l;induction l with
  |nil=>intro s h;exact .inl h
  |cons e l i=>
   intro s h;simp only[List.foldl_cons] at h;rcases i _ h with a|⟨d,g,a⟩
   . cases c:Region.binds .any e with
     |false=>simp only[c,eE] at a;exact .inl a
     |true=>
      simp only[c,bi,Nat.testBit_or,ln,Nat.testBit_two_pow,cZ] at a;rcases a with(a|a)|a
      . exact .inl a
      . exact .inr ⟨e,by simp,c,.inl a⟩
      . exact .inr ⟨e,by simp,c,.inr a⟩
   . exact .inr ⟨d,by simp[g],a⟩
 rcases key _ 0 h with a|⟨e,f,a⟩
 . simp at a
 . exact⟨e,by simpa using f,a⟩
theorem y3:∀(b:List Oper)(a:List Nat),(fj b a).length=a.length+b.length/\(∀i,i<a.length->(fj b a)[i]? =a[i]?)/\∀i o,b[i]? =I o->(fj b a)[a.length+i]? =I (vB ((fj b a).take (a.length+i)) o)
 |[],a=>⟨by simp[fj],λ_ _=>rfl,λi o h=>by simp at h⟩
 |o::b,a=>by
  obtain⟨g,d,j⟩:=y3 b (a++[vB a o]);simp only[fj];refine⟨by rw[g];simp;omega,λi c=>by rw[d i (by simp;omega),et c],λi k f=>?_⟩;cases i with
  |zero=>
   simp only[hg,aC] at f;subst f;rw[g_,d a.length (by simp)];have e:(fj b (a++[vB a o])).take a.length=a:=by
    refine lp λi=>?_;by_cases c:i<a.length
    . rw[fT c,d i (by simp;omega),et c]
    . rw[jd (by simp;omega),jd J]
   rw[e];simp
  |succ i=>have:=j i k (by simpa using f);simp only[b0,cc,eu] at this;rw[show a.length+(0+1)+i=a.length+(i+1) from J] at this;exact this
def g1(a:Array Oper)(j k:Nat):Prop:=((fj a.toList []).getD k 0).testBit j=U
theorem lC:∀(a:List Oper)(k:Nat),pF k a=U->∀i o e,a[i]? =I o->e∈o.after->Region.binds .any e=U->e.on<k+i
 |[],_,_,i,o,e,h,_,_=>by simp at h
 |o::a,k,b,i,g,e,c,f,d=>by
  simp only[pF,bL] at b;cases i with
  |zero=>simp only[hg,aC] at c;subst c;have:=List.all_eq_true.1 b.1 e (by simpa using f);simp only[d,Bool.not_true,Bool.false_or] at this;have:=me.1 this;omega
  |succ i=>have:=lC a (k+1) b.2 i g e (by simpa using c) f d;omega
theorem oD{a:Array Oper}(f:pF 0 a.toList=U){L:Nat->Bool}(g:∀k o,a[k]? =I o->L k=U->∀e∈o.after,Region.binds .any e=U->L e.on=U):
 ∀(m k:Nat),k<m->∀o,a[k]? =I o->(∀e∈o.after,Region.binds .any e=U->L e.on=U)->∀j,g1 a j k->L j=U
 |0,k,l,_,_,_,_,_=>aJ l (c9 k)
 |m+1,k,l,o,d,t,j,b=>by
  unfold g1 at b;obtain⟨_,_,r⟩:=y3 a.toList [];have n:=r k o (by simpa using d);simp only[eu,dm] at n;rw[List.getD_eq_getElem?_getD,n,nz] at b;obtain⟨e,i,h,b⟩:=Zp b;have s:e.on<k:=by have:=lC a.toList 0 f k o e (by simpa using d) i h;omega
  have p:=t e i h;rcases b with rfl|b
  . exact p
  . rw[List.getD_eq_getElem?_getD,fT s,<-List.getD_eq_getElem?_getD] at b;have u:k<a.size:=(jC.1 d).1;obtain⟨c,q⟩:∃c,a[e.on]? =I c:=⟨a[e.on]'J,by simp[show e.on<a.size from J]⟩;exact oD f g m e.on J c q (g e.on c q p) j b
def tS{l:List Nat}{t:Nat}:k0 l t=U↔t∈l:=by simp[k0,List.any_eq_true]
def jJ{x y:bg}(h:x.oB y=U):(∀d,x.dst=I d->d∉y.b3)/\(∀d,x.dst=I d->y.dst≠I d)/\(∀d,y.dst=I d->d∉x.b3):=by
 unfold bg.oB at h;simp only[bL] at h;refine⟨λd a b=>?_,λd a c=>?_,λd a b=>?_⟩
 . rw[a] at h;simp only[bL,hM] at h;rw[tS.2 b] at h;simp at h
 . rw[a,c] at h;simp at h
 . rw[a] at h;simp only[hM] at h;rw[tS.2 b] at h;simp at h
theorem C_{b:Nat}{y:bg}:∀(a:List bg)(i:Nat),wC b y i a=U->∀k x,a[k]? =I x->b.testBit (i+k)=U∨x.oB y=U
 |[],_,_,k,x,h=>by simp at h
 |d::a,i,h,k,x,c=>by
  simp only[wC,bL,ln] at h;cases k with
  |zero=>simp only[hg,aC] at c;subst c;exact h.1
  |succ k=>have:=C_ a (i+1) h.2 k x (by simpa using c);rwa [show i+(k+1)=i+1+k from J]
theorem C9{aK:List bg}:∀(eW:List Nat)(a:List bg)(j:Nat),j+a.length=aK.length->eW.length=a.length->wB aK eW a=U->∀k y i x,a[k]? =I y->i<j+k->aK[i]? =I x->(eW.getD k 0).testBit i=U∨x.oB y=U
 |[],[],j,_,_,_,k,y,i,x,d,_,_=>by simp at d
 |b::eW,l::a,j,f,c,h,k,y,i,x,d,m,g=>by
  simp only[wB,bL] at h;cases k with
  |zero=>
   simp only[hg,aC] at d;subst d;have e:aK.length -a.length -1=j:=by simp at f;omega
   rw[e] at h;have:=C_ _ _ h.1 i x (by rw[fT J];exact g);simpa using this
  |succ k=>have:=C9 eW a (j+1) (by simp at f;omega) (by simpa using c) h.2 k y i x (by simpa using d) J g;simpa using this
 |[],l::a,_,_,c,_,_,_,_,_,_,_,_=>by simp at c
 |b::eW,[],_,_,c,_,_,_,_,_,_,_,_=>by simp at c
theorem z4{k b:Nat}:∀(a:List Nat)(i:Nat),vd k b i a=U->∀j c,a[j]? =I c->(i+j<k->b.testBit (i+j)=U)/\(k<i+j->c.testBit k=U)
 |[],_,_,j,c,h=>by simp at h
 |m::a,i,h,j,c,d=>by
  simp only[vd,bL] at h;cases j with
  |zero=>
   simp only[hg,aC] at d;subst d;rw[g_];refine⟨λe=>?_,λe=>?_⟩
   . have:ha i k=U:=me.2 e;simpa[this] using h.1
   . have f:ha i k=ad:=by
      cases l:ha i k with
      |false=>rfl
      |true=>have:=me.1 l;omega
     have g:ha k i=U:=me.2 e;simpa[f,g] using h.1
  |succ j=>have:=z4 a (i+1) h.2 j c (by simpa using d);rwa [show i+(j+1)=i+1+j from J]
theorem JE{B:List Nat}:∀(eW:List Nat)(a:List bg)(k:Nat),eW.length=a.length->(oW B k eW a).length=a.length/\∀i,(oW B k eW a)[i]? =I ad->∀b,eW[i]? =I b->vd (k+i) b 0 B=U
 |[],[],_,_=>⟨rfl,λi h=>by simp[oW] at h⟩
 |b::eW,o::a,k,c=>by
  obtain⟨f,g⟩:=JE (B:=B) eW a (k+1) (by simpa using c);refine⟨by simp[oW,f],λi h e d=>?_⟩;cases i with
  |zero=>simp only[hg,aC] at d;subst d;simp only[oW,hg,aC,Bool.not_eq_false',bL] at h;simpa using h.2
  |succ i=>have:=g i (by simpa[oW] using h) e (by simpa using d);rwa [show k+(i+1)=k+1+i from J]
 |[],o::a,_,c=>by simp at c
 |b::eW,[],_,c=>by simp at c
theorem vS{e:List Nat}{f:Array Oper}:∀(b:List Oper)(k:Nat)(aK:List bg),mC P n e f k b=I aK->aK.length=b.length/\∀i o,b[i]? =I o->∃c,aK[i]? =I c/\o_ P n e f (k+i) o=I c
 |[],k,aK,h=>by simp only[mC,aC] at h;subst h;exact⟨rfl,λi o h=>by simp at h⟩
 |o::b,k,aK,h=>by
  simp only[mC] at h;split at h
  . rename_i a g j l;simp only[aC] at h;subst h;obtain⟨m,p⟩:=vS b (k+1) g l;refine⟨by simp[m],λi r d=>?_⟩;cases i with
    |zero=>simp only[hg,aC] at d;subst d;exact⟨a,rfl,j⟩
    |succ i=>obtain⟨c,q,s⟩:=p i r (by simpa using d);exact⟨c,by simpa using q,by rwa [show k+(i+1)=k+1+i from J]⟩
  . cases h
theorem uZ{p p':Nat->Bool}{i:Nat}(b:p i=U)(c:p' i=ad)(ae:∀j,j≠i->p' j=p j):∀m,(b8 m).countP p=(b8 m).countP p'+if i<m then 1 else 0
 |0=>by simp
 |m+1=>by
  have d:=uZ b c ae m;have e:∀q:Nat->Bool,(b8 (m+1)).countP q=(b8 m).countP q+if q m=U then 1 else 0:=λq=>by rw[List.range_succ,List.countP_append];simp[List.countP_cons]
  rw[e p,e p',d];by_cases a:m=i
  . subst a;rw[ax (Nat.lt_irrefl m),aF b,ax (by rw[c];simp),aF (Nat.lt_succ_self m)]
  . rw[ae m a];by_cases h:i<m
    . rw[aF h,aF (show i<m+1 by omega)];omega
    . rw[ax h,ax (show¬i<m+1 by omega)];omega
def Zy{id:Nat}{f:Array Oper}{aK:List bg}{A:List Bool}{bo:List Nat}{Q:Exit->Act->World->Prop}{K:av->Mem->Prop}(bJ:P.follows .mixedOrders=U)(bO:mC P n bo f 0 f.toList=I aK)(aW:xA f aK=I A)
 (bm:bW w0 Γ0 n w Γ s M a)(bY:qj P aK A s M K)(a3:∀af W am aq ay,bW w0 Γ0 n aq ay af W am->K af W->Q .normal am aq):(Code.region id f U).wp P Q a w:=by
 obtain⟨bE,a_⟩:=vS _ _ _ bO;simp only[dm] at a_;have bF:aK.length=f.size:=by simpa using bE
 unfold xA at aW;simp only at aW;obtain⟨aQ,rfl⟩:=ef aW;simp only[bL] at aQ;obtain⟨⟨⟨⟨au,ah⟩,be⟩,_⟩,_⟩:=aQ;obtain⟨bq,_,_⟩:=y3 f.toList [];simp only[eu,dm,Array.length_toList] at bq;obtain⟨cd,bN⟩:=JE (B:=fj f.toList []) (fj f.toList []) aK 0 J;have bi:∀i,i<f.size->∃o H,f[i]? =I o/\aK[i]? =I H/\o_ P n bo f i o=I H:=λi r=>by obtain⟨H,N,X⟩:=a_ i f[i] (by simp[r]);exact⟨_,H,by simp[r],N,X⟩
 have aO:∀i k x y,i<k->aK[i]? =I x->aK[k]? =I y->g1 f i k∨x.oB y=U:=λi k x y bA G bZ=>by have:=C9 (aK:=aK) (fj f.toList []) aK 0 J J ah k y i x bZ J G;exact this
 have bx:∀m,m<f.size->(oW (fj f.toList []) 0 (fj f.toList []) aK)[m]? =I ad->(∀i,i<m->g1 f i m)/\(∀i,m<i->i<f.size->g1 f m i):=λm aV al=>by
  have C:(fj f.toList [])[m]? =I ((fj f.toList []).getD m 0):=by rw[List.getD_eq_getElem?_getD,cG J];rfl
  have:=bN m al _ C;rw[dm] at this;refine⟨λi r=>?_,λi r ca=>?_⟩
  . have N:=(z4 _ 0 this i _ (cG J)).1 J;rwa [dm] at N
  . have N:=(z4 _ 0 this i _ (cG J)).2 J;unfold g1;rw[List.getD_eq_getElem?_getD,cG J];exact N
 generalize ce:oW (fj f.toList []) 0 (fj f.toList []) aK=A at*;have bH:∀k,p2 (A.drop k) (aK.drop k)=U:=by
  intro k;have:∀(k:Nat)(A:List Bool)(aK:List bg),p2 A aK=U->p2 (A.drop k) (aK.drop k)=U:=by
   intro k;induction k with
   |zero=>intro A aK h;exact h
   |succ k aM=>
    intro A aK h;cases A with
    |nil=>cases aK<;>simp[p2]
    |cons q A=>
     cases aK with
     |nil=>simp only[List.drop_nil];cases(q::A).drop (k+1)<;>rfl
     |cons o b4=>simp only[p2,bL] at h;exact aM A b4 h.2
  exact this k A aK be
 have b1:∀(an:Nat)(g:Array Bool)(a:Act)(w:World)(Γ:Env)(bd c:Nat)(S:List V)(s R:av)(M:Mem),
  (b8 f.size).countP (λi=>!g.getD i U)<=an->g.size=f.size->
  (∀k o,f[k]? =I o->g.getD k U=U->∀e∈o.after,Region.binds .any e=U->g.getD e.on U=U)->
  bd+c<=f.size->(∀i,i<bd->g.getD i U=U)->(∀i,bd+c<=i->i<f.size->g.getD i U=ad)->
  S.length=c->l_ P M ((aK.drop bd).take c) S s R->
  ((bd+c=f.size/\K R M)∨(∃o,aK[bd+c]? =I o/\A[bd+c]? =I ad/\f8 P ad o R M (λaf W=>qj P (aK.drop (bd+c+1)) (A.drop (bd+c+1)) af W K)))->
  bW w0 Γ0 n w Γ (hm (λi=>g.getD i U) bd ((aK.drop bd).take c) S s) M a->
  wpAny P .any f Q an g a w:=by
  intro an;induction an with
  |zero=>
   intro g a w Γ bd c S s R M bs aa aw bb aU aj aI ae ai z;have Y:∀i,i<f.size->g.getD i U=U:=λi r=>by have a2:(b8 f.size).countP (λi=>!g.getD i U)=0:=J;rw[List.countP_eq_zero] at a2;have:=a2 i (hh.2 r);simpa using this
   have aY:Region.ready .any f g=[]:=by rw[List.eq_nil_iff_forall_not_mem];intro j u;obtain⟨N,o,X,_⟩:=mem_ready.1 u;rw[Y j (jC.1 X).1] at N;cases N
   have aV:bd+c=f.size:=by
    rcases eT (bd+c) f.size with E|aD
    . have:=aj (bd+c) (bk _) E;rw[Y _ E] at this;cases this
    . omega
   rcases ai with⟨_,aN⟩|⟨o,D,_⟩
   . refine⟨aY,a3 R M a w Γ ⟨z.e1,λt=>?_,z.size,z.defers,z.ext⟩ aN⟩;rw[<-ae.fin bd (λi=>g.getD i U) (λi r=>Y (bd+i) (by simp at r;omega)) t];exact z.fD t
   . have:=(az.1 D).1;omega
  |succ an aM=>
   intro g a w Γ bd c S s R M bs aa aw bb aU aj aI ae ai z;have aR:∀i b a1,i<f.size->g.getD i b=g.getD i a1:=λi b a1 r=>by simp[aa,r]
   have a7:∀i,i<f.size->g.getD i U=ad->(b8 f.size).countP (λj=>!(g.setIfInBounds i U).getD j U)<=an:=λi r F=>by have:=uZ (p:=λj=>!g.getD j U) (p':=λj=>!(g.setIfInBounds i U).getD j U) (i:=i) (by simp only[F];rfl) (by simp[aa,r]) (λj u=>by simp only[getD_set_ne U (cA u)]) f.size;rw[aF r] at this;omega
   have a6:∀i o,f[i]? =I o->(∀e∈o.after,Region.binds .any e=U->g.getD e.on ad=U)->
    (∀k o,f[k]? =I o->(g.setIfInBounds i U).getD k U=U->∀e∈o.after,Region.binds .any e=U->(g.setIfInBounds i U).getD e.on U=U):=λi o D ab k a0 T ak e Z C=>by
    have cc:k<f.size:=(jC.1 T).1;have E:e.on<f.size:=by have:=lC f.toList 0 au k a0 e (by simpa using T) Z C;omega
    have key:g.getD e.on U=U->(g.setIfInBounds i U).getD e.on U=U:=λh=>by
     by_cases a8:i=e.on
     . subst a8;simp[aa,E]
     . rw[getD_set_ne U a8];exact h
    by_cases bc:k=i
    . subst bc;rw[D] at T;simp only[aC] at T;subst T;exact key ((aR _ _ _ E).trans (ab e Z C))
    . rw[getD_set_ne U (cA bc)] at ak;exact key (aw k a0 T ak e Z C)
   refine⟨λaY=>?_,λi r=>?_⟩
   .
    have Y:∀m i,i<m->i<f.size->g.getD i U=U:=by
     intro m;induction m with
     |zero=>intro i h;exact aJ h (c9 i)
     |succ m b0=>
      intro i bB r;cases F:g.getD i U with
      |true=>rfl
      |false=>
       have ab:i∈Region.ready .any f g:=mem_ready.2 ⟨F,f[i],by simp[r],λe Z C=>by
        have E:e.on<i:=by have:=lC f.toList 0 au i f[i] e (by simp[r]) Z C;omega
        exact(aR _ _ _ J).trans (b0 e.on J J)⟩;rw[aY] at ab;cases ab
    have a4:∀i,i<f.size->g.getD i U=U:=λi r=>Y (i+1) i J r;have aV:bd+c=f.size:=by
     rcases eT (bd+c) f.size with E|aD
     . have:=aj (bd+c) (bk _) E;rw[a4 _ E] at this;cases this
     . omega
    rcases ai with⟨_,aN⟩|⟨o,D,_⟩
    . refine a3 R M a w Γ ⟨z.e1,λt=>?_,z.size,z.defers,z.ext⟩ aN;rw[<-ae.fin bd (λi=>g.getD i U) (λi r=>a4 (bd+i) (by simp at r;omega)) t];exact z.fD t
    . have:=(az.1 D).1;omega
   . obtain⟨F,o,D,ab⟩:=mem_ready.1 r;have ao:i<f.size:=(jC.1 D).1;obtain⟨a0,H,T,ar,bl⟩:=bi i ao;rw[D] at T;simp only[aC] at T;subst T;have aP:∀j,g1 f j i->g.getD j U=U:=λj u=>
      oD au (L:=λj=>g.getD j U) aw (i+1) i J o D (λe Z C=>by
       have E:e.on<i:=by have:=lC f.toList 0 au i o e (by simpa using D) Z C;omega
       exact(aR _ _ _ J).trans (ab e Z C)) j u;have a5:∀k,k<f.size->g.getD k U=U->∀j,g1 f j k->g.getD j U=U:=λk ak bD j u=>by
      obtain⟨ok,_,bh,_⟩:=bi k ak;exact oD au (L:=λj=>g.getD j U) aw (k+1) k J ok bh (aw k ok bh bD) j u
     by_cases bB:i<bd+c
     .
      have bA:bd<=i:=by
       rcases eT i bd with E|aD
       . rw[aU i E] at F;cases F
       . exact aD
      obtain⟨d,rfl⟩:∃d,i=bd+d:=⟨i -bd,J⟩;have aX:((aK.drop bd).take c)[d]? =I H:=by rw[fT J,h2];exact ar
      have bj:∀j x,((aK.drop bd).take c)[j]? =I x->j<c/\aK[bd+j]? =I x:=λj x G=>by
       have aG:j<c:=by have:=(az.1 G).1;simp at this;omega
       rw[fT aG,h2] at G;exact⟨aG,G⟩
      obtain⟨v,bU,bK,b6,bt,bS⟩:=ae.at d bd H aX;have bG:∀t∈H.b3,aE b6 t=aE (hm (λi=>g.getD i U) bd ((aK.drop bd).take c) S s) t:=λt bn=>by
       rw[<-bS t];refine wv _ _ _ _ _ rfl λj x G ap=>?_;obtain⟨aG,aL⟩:=bj j x G;rcases Nat.lt_trichotomy j d with E|heq|b_
       . rw[bR];rcases aO (bd+j) (bd+d) x H J aL ar with C|ah
         . exact(aP _ C).symm
         . exact aJ bn ((jJ ah).1 t ap)
       . subst heq;rw[F];simp
       . rw[h8];rcases aO (bd+d) (bd+j) H x J ar aL with C|ah
         . cases aT:g.getD (bd+j) U with
           |false=>rfl
           |true=>rw[a5 _ J aT _ C] at F;cases F
         . exact aJ bn ((jJ ah).2.2 t ap)
      have bu:=bt.move bK bG;refine rB D bl z bu ?_;rintro af W am aq ay O ⟨bQ,rfl⟩;refine aM (g.setIfInBounds (bd+d) U) am aq ay bd c S s R W (a7 _ ao F) (by simp[aa]) (a6 _ o D ab) bb (λj u=>?_) (λj u aS=>?_) aI ae ai ?_
      . rw[getD_set_ne U J];exact aU j u
      . rw[getD_set_ne U J];exact aj j u aS
      . refine⟨O.e1,λt=>?_,O.size,O.defers,O.ext⟩;have:=O.fD t;rw[bQ t,fZ] at this;have e:aE (hm (λi=>(g.setIfInBounds (bd+d) U).getD i U) bd ((aK.drop bd).take c) S s) t=if H.dst=I t then v else aE (hm (λi=>g.getD i U) bd ((aK.drop bd).take c) S s) t:=by
         split
         . rename_i aB;refine CT _ _ _ d _ aX bU aB (by simp[aa,ao]) λj x b9 G ap=>?_;obtain⟨aG,aL⟩:=bj j x G;rw[getD_set_ne U J];rcases aO (bd+d) (bd+j) H x J ar aL with C|ah
           . cases aT:g.getD (bd+j) U with
             |false=>rfl
             |true=>rw[a5 _ J aT _ C] at F;cases F
           . exact aJ ap ((jJ ah).2.1 t aB)
         . rename_i aB;refine wv _ _ _ _ _ rfl λj x G ap=>?_;by_cases bC:j=d
           . subst bC;rw[aX] at G;simp only[aC] at G;subst G;exact aJ ap aB
           . rw[getD_set_ne U J]
        rw[e];exact this
     .
      rcases ai with⟨aV,_⟩|⟨cf,aH,bM,bX⟩
      . omega
      . have bf:bd+c<f.size:=by have:=(az.1 aH).1;omega
        obtain⟨bv,bw⟩:=bx (bd+c) bf bM;have bz:i=bd+c:=by
         rcases eT (bd+c) i with E|aD
         . have:=aP _ (bw i E ao);rw[aj (bd+c) (bk _) bf] at this;cases this
         . omega
        subst bz;rw[ar] at aH;simp only[aC] at aH;subst aH;have Y:∀j,j<bd+c->g.getD j U=U:=λj u=>aP j (bv j u);have bT:bW w0 Γ0 n w Γ R M a:=⟨z.e1,λt=>by rw[<-ae.fin bd (λi=>g.getD i U) (λi r=>Y (bd+i) (by have:=List.length_take_le c (aK.drop bd);omega)) t];exact z.fD t,z.size,z.defers,z.ext⟩;refine rB D bl bT bX ?_;intro af W am aq ay O bI;obtain⟨aA,b7,b5,br,bV,bP,a9⟩:=AP _ _ af (by simp;omega) (bH _) bI;simp only[kJ] at br a9;refine aM (g.setIfInBounds (bd+c) U) am aq ay (bd+c+1) aA b7 af b5 W (a7 _ ao F) (by simp[aa]) (a6 _ o D ab) J (λj u=>?_) (λj u aS=>?_) bV bP ?_ ?_
        . by_cases ba:j=bd+c
          . subst ba;simp[aa,ao]
          . rw[getD_set_ne U (cA ba)];exact Y j J
        . rw[getD_set_ne U J];exact aj j J aS
        . rcases a9 with⟨N,X⟩|⟨b2,N,X,bp⟩
          . exact .inl ⟨J,X⟩
          . rw[h2] at N X;rw[List.drop_drop,List.drop_drop] at bp;exact .inr ⟨b2,N,X,by rwa [show bd+c+1+aA+1=bd+c+1+(aA+1) from J]⟩
        . refine⟨O.e1,λt=>?_,O.size,O.defers,O.ext⟩;rw[ww]
          . exact O.fD t
          . intro j u;have cb:j<aA:=by simp at u;omega
            rw[getD_set_ne U J];exact aj (bd+c+1+j) J J
 refine wp_region_any bJ ?_;have ax:bW w0 Γ0 n w.drew Γ s M a:=bm.nd bm.e1.drew (Ext.drew w Γ);obtain⟨c,S,R,aQ,aI,ae,ai⟩:=AP aK A s J be bY;have aZ:∀i,i<f.size->(Array.replicate f.size ad).getD i U=ad:=λi r=>by simp[r]
 refine b1 f.size _ a w.drew Γ 0 c S s R M ?_ (by simp) ?_ J (λi r=>aJ r (c9 i)) (λi _ r=>aZ i r) aI (by simpa using ae) ?_ ?_
 . have:=List.countP_le_length (p:=λi=>!(Array.replicate f.size ad).getD i U) (l:=b8 f.size);simpa using this
 . intro k o D ak;rw[aZ k (jC.1 D).1] at ak;cases ak
 . simpa[bF] using ai
 . refine⟨ax.e1,λt=>?_,ax.size,ax.defers,ax.ext⟩;rw[ww]
   . exact ax.fD t
   . intro i r;rw[dm];exact aZ i (by simp at r;omega)
end
section
variable{P:Program}{w0 w:World}{Γ0 Γ:Env}{M:Mem}{s bP:av}{a:Act}{n:Nat}
def ZM{o:cH}{M:Mem}(h:∀t∈o.b3,aE s t=aE bP t):kw o s M=kw o bP M:=by
 cases o<;>simp only[kw]<;>simp only[cH.b3,dv] at h
 case box n x=>rw[da h]
 case store n a x=>rw[da (x:=a) λt e=>h t (.inl e),da (x:=x) λt e=>h t (.inr e)]
 case mf z b g=>rw[w7 h]
 case oT z b l c=>rw[da (x:=l) λt e=>h t (.inl e),da (x:=c) λt e=>h t (.inr e)]
 case makeSlice z a b l c=>rw[da (x:=l) λt e=>h t (.inl e),da (x:=c) λt e=>h t (.inr e)]
 case append i a b x y=>rw[da (x:=x) λt e=>h t (.inl e),da (x:=y) λt e=>h t (.inr e)]
 case makeMap r=>rw[tK h]
 case mapUpdate c m k x=>rw[da (x:=m) λt e=>h t (.inl e),da (x:=k) λt e=>h t (.inr (.inl e)),da (x:=x) λt e=>h t (.inr (.inr e))]
 case mapEntry c z m k=>rw[da (x:=m) λt e=>h t (.inl e),da (x:=k) λt e=>h t (.inr e)]
 case entryStore m st x=>rw[da (x:=m) λt e=>h t (.inl e),da (x:=st) λt e=>h t (.inr (.inl e)),da (x:=x) λt e=>h t (.inr (.inr e))]
 case copy f d x=>rw[da (x:=d) λt e=>h t (.inl e),da (x:=x) λt e=>h t (.inr e)]
 case nf x=>rw[da h]
 case nY x=>rw[da h]
 case qd f x y z=>rw[da (x:=x) λt e=>h t (.inl e),da (x:=y) λt e=>h t (.inr (.inl e)),da (x:=z) λt e=>h t (.inr (.inr e))]
 case lO n x y=>rw[da (x:=x) λt e=>h t (.inl e),da (x:=y) λt e=>h t (.inr e)]
 case p8 x=>rw[da h]
 case pH x=>rw[da h]
 case pZ x=>rw[da h]
theorem aes{op:cH}{b:Option Nat}{i:Bool}{K:av->Mem->Prop}(c:∀t∈op.b3,aE s t=aE bP t)(h:wpOp P ad op b i s M K):
 wpOp P ad op b i bP M (λj a=>∃v,j=a4 bP b v/\K (a4 s b v) a):=by
 cases l:op.hX with
 |true=>
  have key:∀(f:Nat)(args:List V),lW P ad f args M (λd a=>i4 s b i d (λj=>K j a))->
   lW P ad f args M (λd a=>i4 bP b i d (λj=>∃v,j=a4 bP b v/\K (a4 s b v) a)):=λf args h=>
   bx.mono h λd a m=>by rw[ra] at m⊢;exact⟨m.1,d,rfl,m.2⟩
  cases op<;>simp only[cH.hX,gX] at l
  case call f args=>simp only[cH.b3] at c;have h:lW P ad f (d5 s args) M _:=h;rw[sb c] at h;exact key _ _ h
  case fM k args=>
   simp only[cH.b3,dv] at c;have h:kj P ad (aw s k) (d5 s args) M _:=h;rw[sb (xs:=args) λt g=>c t (.inr g),da (x:=k) λt g=>c t (.inl g)] at h;show kj P ad (aw bP k) (d5 bP args) M _;unfold kj at h⊢;split at h
   . exact key _ _ h
   . exact key _ _ h
   . exact h.elim
 |false=>
  cases p:op.gb with
  |false=>rw[s4 p l] at*;obtain⟨v,u,w,z⟩:=h;exact⟨v,by rw[<-Kr c];exact u,w,v,rfl,z⟩
  |true=>
   by_cases q:∃x,op=.n2 x
   . obtain⟨x,rfl⟩:=q;have h:oi (aw s x) M (λv a=>K (a4 s b v) a):=h;rw[da c] at h;show oi (aw bP x) M (λv a=>∃d,a4 bP b v=a4 bP b d/\K (a4 s b d) a);exact aer h λv a o=>⟨v,rfl,o⟩
   by_cases r:∃n x y,op=.lO n x y
   . obtain⟨n,x,y,rfl⟩:=r;have h:pk n (aw s x) (aw s y) M (λv a=>K (a4 s b v) a):=h;simp only[cH.b3,dv] at c;rw[da (x:=x) λt g=>c t (.inl g),da (x:=y) λt g=>c t (.inr g)] at h;show pk n (aw bP x) (aw bP y) M (λv a=>∃d,a4 bP b v=a4 bP b d/\K (a4 s b d) a);exact aet h λv a o=>⟨v,rfl,o⟩
   have e:∀(s:av)(K:av->Mem->Prop),wpOp P ad op b i s M K=ps (kw op s M) (λv a=>K (a4 s b v) a):=by intro s K;cases op<;>first|(exact aJ ⟨_,rfl⟩ q)|(exact aJ ⟨_,_,_,rfl⟩ r)|first|rfl|(simp[cH.hX] at l;done)|(simp[cH.gb] at p;done)
   rw[e] at h⊢;rw[<-ZM c];unfold ps at h⊢;split at h
   . exact⟨_,rfl,h⟩
   . exact h.elim
def hU(aK:List bg)(i:Nat):Option Nat:=
 match aK[i]? with
 |some o=>o.dst
 |none=>ag
def bv(aK:List bg)(val:Nat->V)(L:Nat->Bool)(a:av):Nat->av
 |0=>a
 |i+1=>bif L i then a4 (bv aK val L a i) (hU aK i) (val i) else bv aK val L a i
theorem f4{aK:List bg}{val val':Nat->V}{L L':Nat->Bool}{d s0':av}{t:Nat}:∀m,aE d t=aE s0' t->(∀i,i<m->hU aK i=I t->L i=L' i/\(L i=U->val i=val' i))->
 aE (bv aK val L d m) t=aE (bv aK val' L' s0' m) t
 |0,h,_=>h
 |m+1,h,b=>by
  have c:=f4 (val:=val) (val':=val') (L:=L) (L':=L') m h λi j a=>b i J a;simp only[bv];by_cases a:hU aK m=I t
  . obtain⟨e,f⟩:=b m J a;rw[<-e];cases g:L m with
    |false=>exact c
    |true=>simp only[bi,fZ,a,if_true];exact f g
  . cases L m<;>cases L' m<;>simp only[bi,eE,fZ,ax a]<;>exact c
theorem oC{aK:List bg}{val:Nat->V}{L:Nat->Bool}{b:av}{i:Nat}:∀m,i<=m->(∀j,i<=j->j<m->L j=ad)->bv aK val L b m=bv aK val L b i
 |0,h,_=>by have:i=0:=J;rw[this]
 |m+1,h,a=>by
  by_cases d:i=m+1
  . rw[d]
  . simp only[bv,a m J J,eE];exact oC m J λj c e=>a j c J
theorem wF{aK:List bg}{val:Nat->V}{L a:Nat->Bool}{s0:av}{i t:Nat}(c:L i=ad)(d:a i=U)(ae:∀j,j≠i->a j=L j):∀m,i<m->
 (∀j,i<j->j<m->hU aK j=I t->hU aK i=I t->L j=ad)->
 aE (bv aK val a s0 m) t=if hU aK i=I t then val i else aE (bv aK val L s0 m) t
 |0,h,_=>aJ h (c9 i)
 |m+1,h,g=>by
  by_cases e:i=m
  . subst e;simp only[bv,c,d,bi,eE,fZ];split
    . rfl
    . exact f4 _ rfl λj p _=>⟨ae j J,λ_=>rfl⟩
  . have k:=wF (aK:=aK) (val:=val) (s0:=s0) c d ae m J λj l o=>g j l J;simp only[bv,ae m (cA e)];cases f:L m with
    |false=>exact k
    |true=>
     simp only[bi,fZ];by_cases b:hU aK m=I t
     . simp only[aF b];split
       . rename_i n;rw[g m J J b n] at f;cases f
       . rfl
     . simp only[ax b];exact k
theorem S0{o:bg}{v:V}(i:o.op.gb=ad)(c:o.op.hX=ad)(f:o.guard=ag){a:Mem}(h:e7 P o s M v)(e:o.dst≠ag)(j:gv o.op s a=I v):e7 P o s a v:=by
 obtain⟨k,op,q,g⟩:=o;simp only at f i c j e;subst f;unfold e7 f8 at h⊢;simp only at h⊢;rw[s4 i c] at h⊢;obtain⟨r,p,l,m,_⟩:=h;refine⟨v,j,λn=>?_,λ_=>rfl,rfl⟩;obtain⟨b,rfl⟩:=l n;cases k with
 |none=>exact aJ rfl e
 |some d=>have:=m d;simp only[fZ,if_true] at this;exact⟨b,this.symm⟩
def Et{o:bg}{v:V}(n:o.op.gb=ad)(c:o.op.hX=ad∨o.op.sn=U)(j:o.guard=ag){a:Mem}(h:e7 P o s M v)(l:o.dst≠ag)(d:e_ P o s v a):e7 P o s a v:=by
 rcases c with c|c
 . refine S0 n c j h l ?_;obtain⟨i,op,k,g⟩:=o;cases op<;>first|exact d|cases c
 . obtain⟨i,op,k,g⟩:=o;simp only at j l;subst j;cases op<;>simp only[cH.sn,gX] at c;rename_i f args;obtain⟨d,m⟩:bx P f (d5 s args) a (λx e=>x=v/\e=a)/\(k=U->∃b,v=.bool b):=d;show bx P f (d5 s args) a (λq e=>i4 s i k q (λp=>jl (a4 s i v) a p e));refine d.mono ?_;rintro _ _ ⟨rfl,rfl⟩;rw[ra];exact⟨m,λ_=>rfl,rfl⟩
def qo(P:Program)(aK:List bg)(b:List (Option (List Nat)))(val:Nat->V)(c:av)(H:List (Nat×(Mem->Prop)))(q:Nat):Prop:=
 ∀i o,i<q->aK[i]? =I o->b[i]? =I ag->o.guard=ag->o.dst≠ag->∀a,k6 H i a->e7 P o (bv aK val (λ_=>U) c i) a (val i)
theorem vg{aK:List bg}{a:List (Option (List Nat))}{K:av->Mem->Prop}{s0:av}(ab:aK.length=a.length)(F:∀(i:Nat)(o:bg),aK[i]? =I o->a[i]? =I ag->o.op.gb=ad/\(o.op.hX=ad∨o.op.sn=U)):
 ∀(m q:Nat)(val:Nat->V)(H:List (Nat×(Mem->Prop)))(s:av),aK.length -q=m->q<=aK.length->qo P aK a val s0 H q->(∀t,aE s t=aE (bv aK val (λ_=>U) s0 q) t)->j6 P (aK.drop q) (a.drop q) q H s M K->
 ∃(p:Nat)(b:Nat->V)(c:List (Nat×(Mem->Prop)))(y:av),q<=p/\p<=aK.length/\(∀i,i<q->b i=val i)/\qo P aK a b s0 c p/\(∀t,aE y t=aE (bv aK b (λ_=>U) s0 p) t)/\
  (∀i,q<=i->i<p->∃o,aK[i]? =I o/\a[i]? =I ag/\e7 P o (bv aK b (λ_=>U) s0 i) M (b i))/\
  ((p=aK.length/\K y M)∨∃o l,aK[p]? =I o/\a[p]? =I (I l)/\f8 P ad o y M (λw g=>i6 c l g/\j6 P (aK.drop (p+1)) (a.drop (p+1)) (p+1) c w g K))
 |0,q,val,H,s,af,al,B,ae,h=>by have e:q=aK.length:=J;subst e;rw[List.drop_length,List.drop_eq_nil_of_le J] at h;exact⟨aK.length,val,H,s,bk _,bk _,λ_ _=>rfl,B,ae,λi z A=>J,.inl ⟨rfl,h⟩⟩
 |m+1,q,val,H,s,af,al,B,ae,h=>by
  have ah:q<aK.length:=J;have R:aK.drop q=aK[q]::aK.drop (q+1):=mM ah;have S:a.drop q=a[q]'J::a.drop (q+1):=mM J;have k:aK[q]? =I aK[q]:=by simp
  have D:a[q]? =I (a[q]'J):=by simp
  rw[R,S] at h;generalize aK[q]=o at*;generalize a[q]'J=f at*;cases f with
  |some l=>exact⟨q,val,H,s,bk _,al,λ_ _=>rfl,B,ae,λi z A=>J,.inr ⟨o,l,k,D,h⟩⟩
  |none=>
   obtain⟨C,X⟩:=F q o k D;simp only[j6] at h;obtain⟨v,w,z,A,T⟩:=Cc C h;have cut:∀i,i<=q->∀t,aE (bv aK (λi=>if i=q then v else val i) (λ_=>U) s0 i) t=aE (bv aK val (λ_=>U) s0 i) t:=λi Q t=>f4 i rfl λj aa _=>⟨rfl,λ_=>ax J⟩;have Y:hU aK q=o.dst:=by simp only[hU,k]
   obtain⟨p,b,c,y,aD,ba,bA,ai,aj,ak,am⟩:=vg ab F m (q+1) (λi=>if i=q then v else val i) ((q,e_ P o s (m2 w o.dst))::H) w J J (by
    intro i x Q u N O E g r;by_cases n:i=q
    . subst n;rw[k] at u;simp only[aC] at u;subst u;have e:dG i i=U:=by simp
      simp only[k6,e] at r;obtain⟨d,L⟩:∃d,o.dst=I d:=Option.ne_none_iff_exists'.1 E;have G:m2 w o.dst=v:=by rw[L,m2,A d,fZ,aF L]
      rw[G] at r;have:=Et C X O z E r;simp only[if_true];exact this.move C λt _=>(ae t).trans (cut i (bk _) t).symm
    . have e:dG q i=ad:=by
       cases W:dG q i with
       |false=>rfl
       |true=>exact aJ (l2 W).symm n
      simp only[k6,e] at r;have:=B i x J u N O E g r;show e7 P x _ g (if i=q then v else val i);rw[ax n];exact this.move (F i x u N).1 λt _=>(cut i J t).symm) (λt=>by
    rw[A t];simp only[bv,bi,Y,if_true];rw[fZ,fZ,ae t,cut q (bk _) t]) T;refine⟨p,b,c,y,J,ba,λi Q=>(bA i J).trans (ax J),ai,aj,λi an Z=>?_,am⟩;by_cases n:i=q
   . subst n;refine⟨o,k,D,?_⟩;have G:b i=v:=(bA i J).trans (aF rfl);rw[G];refine z.move C λt _=>?_;rw[ae t];exact f4 i rfl λj aa _=>⟨rfl,λ_=>((bA j J).trans (ax J)).symm⟩
   . exact ak i J Z
theorem vQ{H:List (Nat×(Mem->Prop))}{b:Mem}:∀{l:List Nat},i6 H l b->∀i∈l,k6 H i b
 |[],_,i,a=>by simp at a
 |j::l,h,i,a=>by
  rcases fI.1 a with rfl|a
  . exact h.1
  . exact vQ h.2 i a
def yJ(g:Bool)(a:Array Oper)(b:List bg)(e:List (Option (List Nat)))(ay:Nat->Nat)(p:Nat):Prop:=
 g=ad/\p+1<a.size/\∃c h d j f,b[p]? =I ⟨I c,.alloc h,ad,ag⟩/\b[p+1]? =I ⟨I d,.alloc j,ad,ag⟩/\e[p+1]? =I (I f)/\
  ∀i,p+1<i->i<a.size->g1 a (ay p) (ay i)/\g1 a (ay (p+1)) (ay i)
def Kg{o:bg}(h:xU o=U):∃d z,o=⟨I d,.alloc z,ad,ag⟩:=by
 unfold xU at h;split at h
 . exact⟨_,_,rfl⟩
 . cases h
structure rF(Bc:Bool)(lo:Nat)(gH:Array Oper)(aK kR:List bg)(kV:List (Option (List Nat)))(ay:Nat->Nat):Prop where
 len:kR.length=gH.size
 tO:kV.length=gH.size
 hE:pF 0 gH.toList=U
 lt:∀i,i<gH.size->ay i<gH.size
 inj:∀i j,i<gH.size->j<gH.size->ay i=ay j->i=j
 sT:∀k,k<gH.size->∃i,i<gH.size/\ay i=k
 get:∀i,i<gH.size->kR[i]? =aK[ay i]?
 apart:∀(i k:Nat)(x y:bg),i<k->k<gH.size->kR[i]? =I x->kR[k]? =I y->g1 gH (ay i) (ay k)∨x.oB y=U
 still:∀(i:Nat)(o:bg),kR[i]? =I o->kV[i]? =I ag->o.op.gb=ad/\(o.op.hX=ad∨(Bc=U/\o.op.sn=U))
 aw:∀(p:Nat)(o:bg)(l:List Nat),lo<=p->kR[p]? =I o->kV[p]? =I (I l)->o.guard=ag/\((∀i,p<i->i<gH.size->g1 gH (ay p) (ay i))∨yJ Bc gH kR kV ay p)/\
  ∀(j:Nat)(x:bg),j<p->kR[j]? =I x->g1 gH (ay j) (ay p)∨(j+1=p/\yJ Bc gH kR kV ay j)∨(j∈l/\x.guard=ag/\x.dst≠ag/\kV[j]? =I ag)
def rF.um{g:Bool}{e:Nat}{f:Array Oper}{aK a:List bg}{b:List (Option (List Nat))}{ay:Nat->Nat}(h:rF g e f aK a b ay):∀(i:Nat)(o:bg),a[i]? =I o->b[i]? =I ag->o.op.gb=ad/\(o.op.hX=ad∨o.op.sn=U):=λi o c d=>⟨(h.still i o c d).1,(h.still i o c d).2.imp id λq=>q.2⟩
def Iw{b:Bool}{lo:Nat}{a:Array Oper}{aK:List bg}{ay:List Nat}(Z:dG ay.length aK.length=U)(aa:dG aK.length a.size=U)(ab:pF 0 a.toList=U)
 (ae:∀k,k<aK.length->k0 ay k=U)(E:∀k,k<aK.length->ha (ay.getD k 0) aK.length=U/\∀i,i<k->(!dG (ay.getD i 0) (ay.getD k 0))=U)
 (af:∀k,k<aK.length->∀i,i<k->(lz (fj a.toList []) ay i k||((ay.map λi=>aK.getD i default).getD i default).oB ((ay.map λi=>aK.getD i default).getD k default))=U)
 (F:∀p,p<aK.length->(lo<=p∨(lE (fj a.toList []) ay (aK.map (lD b)) aK.length).getD p ag=ag)->ua b (fj a.toList []) ay (lE (fj a.toList []) ay (aK.map (lD b)) aK.length) (ay.map λi=>aK.getD i default) aK.length p=U):
 rF b lo a aK (ay.map λi=>aK.getD i default) (lE (fj a.toList []) ay (aK.map (lD b)) aK.length) (λi=>ay.getD i 0):=by
 have aA:ay.length=aK.length:=l2 Z;have aB:aK.length=a.size:=l2 aa;have M:∀k,k<a.size->ay.getD k 0<a.size:=λk z=>by have:=(E k J).1;rw[Nat.blt_eq] at this;omega
 have L:∀i k,i<k->k<a.size->ay.getD i 0≠ay.getD k 0:=λi k A z e=>by have:=(E k J).2 i A;rw[e] at this;simp at this
 have ai:∀i,i<a.size->(ay.map λi=>aK.getD i default)[i]? =aK[ay.getD i 0]? :=λi g=>by
  have K:i<ay.length:=J;have ak:=M i g;rw[dK,cG K,jE];have e:ay.getD i 0=ay[i]:=by simp[jc,K]
  rw[e] at ak⊢;rw[cG J];simp[jc,show ay[i]<aK.length by omega]
 have m:∀i x,(ay.map λi=>aK.getD i default)[i]? =I x->(ay.map λi=>aK.getD i default).getD i default=x:=λi x c=>by rw[jc,c];rfl
 have v:∀p,p<a.size->∀d,(lE (fj a.toList []) ay (aK.map (lD b)) aK.length).getD p d=((lE (fj a.toList []) ay (aK.map (lD b)) aK.length)[p]?).getD d:=λp _ d=>by rw[jc]
 have r:∀i k,lz (fj a.toList []) ay i k=U->g1 a (ay.getD i 0) (ay.getD k 0):=λi k ah=>ah;refine⟨by simp;omega,by simp[lE];omega,ab,M,?_,?_,ai,?_,?_,?_⟩
 . intro i j g B e;rcases Nat.lt_trichotomy i j with h|h|h
   . exact aJ e (L i j h B)
   . exact h
   . exact aJ e.symm (L j i h g)
 . intro k z;have:=tS.1 (ae k J);obtain⟨i,g,rfl⟩:=List.getElem_of_mem this;exact⟨i,J,by simp[jc,g]⟩
 . intro i k x y A z c ap;have:=af k J i A;rw[m i x c,m k y ap,ln] at this;rcases this with h|h
   . exact .inl (r _ _ h)
   . exact .inr h
 . intro i o s w;have g:i<a.size:=by
    have:=(az.1 s).1;simp at this;omega
   have:=F i J (.inr (by rw[jc,w];rfl));unfold ua at this;rw[v i g,w] at this;simp only[nz] at this;rw[m i o s] at this;simp only[lD,hM,Bool.or_eq_false_iff,Bool.and_eq_false_iff,Bool.not_eq_false',bL] at this;exact this
 . intro p o l am s w;have an:p<a.size:=by
    have:=(az.1 s).1;simp at this;omega
   have:=F p J (.inl am);unfold ua at this;rw[v p an,w] at this;simp only[nz] at this;rw[m p o s] at this;simp only[bL,List.all_eq_true,hh] at this;obtain⟨⟨X,n⟩,Y⟩:=this;have N:∀x:bg,p5 x=U->x.guard=ag:=λx c=>by
    unfold p5 at c;split at c
    . assumption
    . cases c
   have O:∀q,xQ b (fj a.toList []) ay (lE (fj a.toList []) ay (aK.map (lD b)) aK.length) (ay.map λi=>aK.getD i default) aK.length q=U->
    yJ b a (ay.map λi=>aK.getD i default) (lE (fj a.toList []) ay (aK.map (lD b)) aK.length) (λi=>ay.getD i 0) q:=λq al=>by
    unfold xQ at al;simp only[bL,List.all_eq_true,hh] at al;obtain⟨⟨⟨⟨⟨C,R⟩,S⟩,T⟩,u⟩,ar⟩:=al;have C:b=ad:=by simpa using C
    have R:=me.1 R;have D:∀k,k<a.size->∃x,(ay.map λi=>aK.getD i default)[k]? =I x:=λk z=>by exact⟨_,cG (by simp;omega)⟩
    obtain⟨au,P⟩:=D q J;obtain⟨av,Q⟩:=D (q+1) J;rw[m q au P] at S;rw[m (q+1) av Q] at T;obtain⟨V,aw,rfl⟩:=Kg S;obtain⟨W,ax,rfl⟩:=Kg T;rw[v (q+1) J] at u;refine⟨C,J,V,aw,W,ax,?_⟩;cases H:(lE (fj a.toList []) ay (aK.map (lD b)) aK.length)[q+1]? with
    |none=>rw[H] at u;simp at u
    |some f=>
     rw[H] at u;cases f with
     |none=>simp at u
     |some aq=>refine⟨aq,P,Q,rfl,λi aj aC=>?_⟩;have:=ar i J;rw[show ha (q+1) i=U from me.2 aj] at this;simp only[Bool.not_true,Bool.false_or,bL] at this;exact⟨r _ _ this.1,r _ _ this.2⟩
   refine⟨N o X,?_,λj x B c=>?_⟩
   . rcases ln _ _|>.mp n with n|n
     . refine .inl λi ao g=>?_;have:=List.all_eq_true.1 n i (hh.2 J);rw[show ha p i=U from me.2 ao] at this;exact r _ _ (by simpa using this)
     . exact .inr (O p n)
   . have:=Y j B;rw[m j x c,ln,ln] at this;rcases this with(h|h)|h
     . exact .inl (r _ _ h)
     . simp only[bL] at h;exact .inr (.inl ⟨l2 h.1,O j h.2⟩)
     . simp only[bL] at h;obtain⟨⟨⟨aD,ba⟩,bA⟩,t⟩:=h;refine .inr (.inr ⟨tS.1 aD,N x ba,(λe=>by rw[e] at bA;cases bA),?_⟩);rw[v j J] at t;cases G:(lE (fj a.toList []) ay (aK.map (lD b)) aK.length)[j]? with
       |none=>rw[G] at t;simp at t
       |some f=>
        rw[G] at t;cases f with
        |none=>rfl
        |some l=>simp at t
def Zw{f:Bool}{e:Array Oper}{aK a:List bg}{b:List (Option (List Nat))}(h:xB f e aK=I (a,b)):∃ay,rF f 0 e aK a b ay:=by
 unfold xB at h;simp only at h;split at h
 . cases h
 . rename_i ay q;obtain⟨c,d⟩:=ef h;simp only[dh] at d;obtain⟨rfl,rfl⟩:=d;simp only[bL,List.all_eq_true,hh] at c;obtain⟨⟨⟨⟨⟨⟨g,i⟩,j⟩,k⟩,l⟩,m⟩,n⟩:=c;exact⟨_,Iw g i j k l m λp o _=>n p o⟩
abbrev M5(m:Nat)(P:Program)(w0:World)(Γ0:Env)(n:Nat)(d:Array Oper)(c:List bg)(f:List (Option (List Nat)))(ay:Nat->Nat)(s:av)(K:av->Mem->Prop)(Q:Exit->Act->World->Prop)(j:Nat):Prop:=
 ∀(b:Array Bool)(a:Act)(w:World)(Γ:Env)(p:Nat)(val:Nat->V)(H:List (Nat×(Mem->Prop)))(g:av)(M:Mem),
    (b8 d.size).countP (λi=>!b.getD i U)<=j->b.size=d.size->
    (∀k o,d[k]? =I o->b.getD k U=U->∀e∈o.after,Region.binds .any e=U->b.getD e.on U=U)->
    m<=p->p<=d.size->(∀i,p<=i->i<d.size->b.getD (ay i) U=ad)->
    (∀i,i<p->b.getD (ay i) U=ad->∃o,c[i]? =I o/\f[i]? =I ag/\e7 P o (bv c val (λ_=>U) s i) M (val i))->
    qo P c f val s H p->(∀t,aE g t=aE (bv c val (λ_=>U) s p) t)->
    ((p=d.size/\K g M)∨∃o l,c[p]? =I o/\f[p]? =I (I l)/\f8 P ad o g M (λq h=>i6 H l h/\j6 P (c.drop (p+1)) (f.drop (p+1)) (p+1) H q h K))->
    bW w0 Γ0 n w Γ (bv c val (λi=>b.getD (ay i) U) s p) M a->
    wpAny P .any d Q j b a w
abbrev M3(y:Bool)(x:Nat)(P:Program)(w0:World)(Γ0:Env)(n:Nat)(d:Array Oper)(c:List bg)(f:List (Option (List Nat)))(ay:Nat->Nat)(s:av)(K:av->Mem->Prop)(Q:Exit->Act->World->Prop)(l:Nat):Prop:=
 ∀(b:Array Bool)(a:Act)(w:World)(Γ:Env)(p:Nat)(val:Nat->V)(H:List (Nat×(Mem->Prop)))(q:av)(M:Mem)(h:Nat)(r:List V)(j:Nat)(u:List V)(m v:List Nat),
    y=ad->(b8 d.size).countP (λi=>!b.getD i U)<=l->b.size=d.size->
    (∀k o,d[k]? =I o->b.getD k U=U->∀e∈o.after,Region.binds .any e=U->b.getD e.on U=U)->
    x<=p->p+1<d.size->c[p]? =I ⟨I h,.alloc r,ad,ag⟩->c[p+1]? =I ⟨I j,.alloc u,ad,ag⟩->f[p]? =I (I m)->f[p+1]? =I (I v)->
    (∀i,p+1<i->i<d.size->g1 d (ay p) (ay i))->
    b.getD (ay (p+1)) U=U->(∀i,p<=i->i<d.size->i≠p+1->b.getD (ay i) U=ad)->
    (∀i,i<p->b.getD (ay i) U=ad->∃o,c[i]? =I o/\f[i]? =I ag/\e7 P o (bv c val (λ_=>U) s i) M (val i))->
    qo P c f val s H p->(∀t,aE q t=aE (bv c val (λ_=>U) s p) t)->
    f8 P ad ⟨I h,.alloc r,ad,ag⟩ q M (λz g=>i6 H m g/\j6 P (c.drop (p+1)) (f.drop (p+1)) (p+1) H z g K)->
    bW w0 Γ0 n w Γ (dQ (bv c val (λi=>b.getD (ay i) U) s p) j (.ptr (M.length+1) 0)) (M++[.dead,.box u]) a->
    wpAny P .any d Q l b a w
def sh{M:Mem}{i:Nat}{B:au}(h:M[i]? =I B)(L:Mem):(M++L)[i]? =I B:=by rw[et (az.1 h).1,h]
def YR{k:Nat}{b:Bool}{x v:V}{M:Mem}(L:Mem)(h:dZ k b x M=I v):dZ k b x (M++L)=I v:=by
 cases x<;>simp only[dZ] at h⊢<;>first|exact h|skip
 case ptr id off=>
  cases a:M[id]? with
  |none=>rw[a] at h;cases h
  |some B=>rw[a] at h;rw[sh a];exact h
 case df id ver row off=>
  cases a:M[id]? with
  |none=>rw[a] at h;cases h
  |some B=>rw[a] at h;rw[sh a];exact h
def ab6{k:Nat}{x:V}{r:List (List V)}{M:Mem}(L:Mem)(h:dg k M x=I r):dg k (M++L) x=I r:=by
 cases x<;>simp only[dg] at h⊢<;>first|exact h|skip
 case an id _ _ _=>
  cases a:M[id]? with
  |none=>rw[a] at h;cases h
  |some B=>rw[a] at h;rw[sh a];exact h
def YC{x v:V}{M:Mem}(L:Mem)(h:eY x M=I v):eY x (M++L)=I v:=by
 cases x<;>simp only[eY] at h⊢<;>first|exact h|skip
 case an id _ _ _=>
  cases a:M[id]? with
  |none=>rw[a] at h;cases h
  |some B=>rw[a] at h;rw[sh a];exact h
def XV{k:Nat}{x i v:V}{M:Mem}(L:Mem)(h:d8 k x i M=I v):d8 k x i (M++L)=I v:=by
 cases i<;>simp only[d8] at h⊢<;>first|exact h|skip
 case int c q=>
  cases b:decide (0<=q) with
  |false=>rw[b] at h;cases h
  |true=>
   rw[b] at h;simp only[bi] at h⊢;cases x<;>simp only at h⊢<;>first|exact h|skip
   case an id _ _ _=>
    cases a:M[id]? with
    |none=>rw[a] at h;cases h
    |some B=>rw[a] at h;rw[sh a];exact h
def acG{k:Nat}{x v:V}{d c b:Option V}{M:Mem}(L:Mem)(h:eQ k x d c b M=I v):eQ k x d c b (M++L)=I v:=by
 cases x<;>simp only[eQ] at h⊢<;>first|exact h|skip
 case an id _ _ _=>
  cases a:M[id]? with
  |none=>rw[a] at h;cases b<;>cases h
  |some B=>rw[a] at h;rw[sh a];exact h
theorem Zk{c:en}{m key:V}{r:Option V}{M:Mem}(L:Mem)(h:kv c M m key=I r):kv c (M++L) m key=I r:=by
 unfold kv at h⊢;cases b:iW c key with
 |false=>rw[b] at h;cases h
 |true=>
  rw[b] at h;simp only[bi] at h⊢;cases m<;>simp only at h⊢<;>first|exact h|skip
  case map id=>
   cases a:M[id]? with
   |none=>rw[a] at h;cases h
   |some B=>rw[a] at h;rw[sh a];exact h
def aaD{o:cH}{v:V}{M:Mem}(L:Mem)(h:gv o s M=I v):gv o s (M++L)=I v:=by
 cases o<;>simp only[gv] at h⊢<;>first|exact h|exact YR L h|exact YC L h|exact XV L h|exact acG L h|skip
 case nN x=>
  unfold oG at h⊢;cases a:dg 1 M (aw s x) with
  |none=>rw[a] at h;cases h
  |some r=>rw[a] at h;rw[ab6 L a];exact h
 case lookup c z b ok m k=>
  unfold lJ at h⊢;cases a:kv c M (aw s m) (aw s k) with
  |none=>rw[a] at h;cases h
  |some r=>rw[a] at h;rw[Zk L a];exact h
theorem e7.a1{o:bg}{v:V}(n:o.op.gb=ad)(l:o.op.hX=ad)(h:e7 P o s M v)(L:Mem):e7 P o s (M++L) v:=by
 obtain⟨c,op,d,g⟩:=o;have key:∀(a r:av),wpOp P ad op c d a M (jl r M)->wpOp P ad op c d a (M++L) (jl r (M++L)):=λa r h=>by rw[s4 n l] at h⊢;obtain⟨p,i,j,k,_⟩:=h;exact⟨p,aaD L i,j,k,rfl⟩
 have e:∀(a r:av),jl r M a M->jl r (M++L) a (M++L):=λa r h=>⟨h.1,rfl⟩;unfold e7 f8 at h⊢;cases g with
 |none=>exact key _ _ h
 |some f=>
  obtain⟨g,t⟩:=f;simp only at h⊢;cases m:aE s g<;>rw[m] at h<;>(try simp only at h)<;>(try simp only)<;>first|exact h.elim|skip
  case bool b=>cases t<;>cases b<;>first|exact key _ _ h|exact e _ _ h
  case tuple q=>
   cases q with
   |nil=>exact e _ _ h
   |cons _ _=>exact h.elim
def Qe(c:Good w Γ M){o:Oper}{id:Nat}(n:M[id]? =I .dead){e:TypeId}{z:List V}(y:o.op=.alloc e)(C:jb P e=I z):gP P w Γ a o (.ptr id 0) (M.set id (.box z)):=by
 obtain⟨j,p,r⟩:=s6 C;obtain⟨l,d⟩:=c.YW n;obtain⟨s,E⟩:=c.dI id l _ d n;have v:id<Γ.cf.length:=(az.1 d).1;let g:Loc:=⟨w.heap.size,U,U,0,0,l.ver+1⟩
 have f:Ext w Γ (w.alloc (.cells j.cells e)) (Γ.ej id g Γ.S):=Ext.ej d s (by show l.ver<l.ver+1;omega) (λb q ae=>⟨ae,qb (kX w _ (c.np ae))⟩) ((Below.refl _ _).alloc c.bf _) (λ_ _ _ h=>h);refine⟨_,w.alloc (.cells j.cells e),Γ.ej id g Γ.S,?_,.inl ⟨.pointer (I ⟨w.heap.size,0,ag⟩),rfl,.ptr id 0 g (by simp only[Env.ej];rw[bY v]) rfl rfl⟩,?_,f⟩
 . simp[execOp,y,Instr.alloc,p,newVar,newRow]
 . refine c.ej d f (λk _ t=>kX w _ t) (λi m D x B=>⟨λe=>?_,λ_ h=>h⟩) c.bf (λb q ae=>?_) ⟨rfl,rfl,λq ae=>c.q1 q ae,j.cells,e,heap_alloc_new w _,((r w Γ).1).ext f⟩
   . have:=c.j0 x B;rw[show m.b=w.heap.size from e] at this;omega
   . obtain⟨u,A⟩:=c.hx b q ae;exact⟨u,(pB (kX w _ (c.np ae))).trans A⟩
def abx{i j:Bool}{k:TypeId}{op:Op}{z:List V}(h:fC P i j k op=I (.alloc z)):∃e,op=.alloc e/\jb P e=I z:=by
 cases op
 case alloc e=>simp only[fC,cL] at h;obtain⟨n,d,a⟩:=h;cases a;exact⟨e,rfl,d⟩
 case call c=>
  exfalso;obtain⟨callee,args,l⟩:=c;cases callee with
  |builtin b=>
   simp only[fC] at h;unfold rf at h
   repeat' (split at h)
   all_goals first
    |contradiction
    |(cases h;done)
    |(simp only[cL] at h;obtain⟨_,_,h⟩:=h;cases h;done)
    |(simp only[aC] at h;cases h;done)
    |(obtain⟨_,_,_,_,h⟩:=gm h;cases h;done)
  |value f=>
   cases f with
   |func f=>simp only[fC,cL] at h;obtain⟨_,_,h⟩:=h;cases h
   |tmp t=>simp only[fC] at h;obtain⟨_,_,_,_,h⟩:=gm h;cases h
   |const c=>simp only[fC] at h;obtain⟨_,_,_,_,h⟩:=gm h;cases h
   |global g=>simp only[fC] at h;obtain⟨_,_,_,_,h⟩:=gm h;cases h
  |invoke r m=>simp[fC] at h
 all_goals
  exfalso;simp only[fC,reduceCtorEq] at h<;>(repeat' (split at h))<;>first
   |contradiction
   |(cases h;done)
   |(simp only[cL] at h;obtain⟨_,_,h⟩:=h;cases h;done)
   |(simp only[aC] at h;cases h;done)
   |(obtain⟨_,h⟩:=ef h;cases h;done)
   |(obtain⟨_,_,_,_,h⟩:=gm h;cases h;done)
def Mo{b:Array Oper}{i:Nat}{o:Oper}{d:Nat}{z:List V}{L:List Nat}(E:b[i]? =I o)(f:o_ P n L b i o=I ⟨I d,.alloc z,ad,ag⟩)(q:bW w0 Γ0 n w Γ s M a){id:Nat}(v:M[id]? =I .dead)
 {next:Act->World->Prop}{Q:Exit->Act->World->Prop}(D:∀m l t,bW w0 Γ0 n l t (dQ s d (.ptr id 0)) (M.set id (.box z)) m->next m l):Go.wpOp P b Q i next a w:=by
 obtain⟨op,g,G,c,heq,x⟩:=Bk f;simp only[bg.mk.injEq] at heq;obtain⟨p,rfl,_,rfl⟩:=heq;obtain⟨e,F,K⟩:=abx G;have B:o.guard=ag:=by
  cases C:o.guard with
  |none=>rfl
  |some u=>obtain⟨j,O⟩:=u;rw[C] at c;simp only[sG,cL] at c;obtain⟨_,_,h⟩:=c;cases h
 have J:Region.wanted o (yielded b a.tmps)=U:=by simp[Region.wanted,B]
 unfold Go.wpOp;simp only[E,J,if_true];refine .inl ?_;obtain⟨r,l,t,H,f,A,y⟩:=Qe (P:=P) (a:=a) q.e1 v F K;unfold Oper.wp;rw[H];rcases f with⟨N,rfl,k⟩|⟨_,k⟩
 . rw[Oper.upon_value];have:=(q.nd A y).put (dst:=o.dst) k x;rw[<-p] at this;rw[<-p];exact D _ _ _ this
 . cases k
theorem E7{f:Array Oper}{aK d:List bg}{aM:List (Option (List Nat))}{ay:Nat->Nat}{cp:Nat}{cD:List Nat}{Q:Exit->Act->World->Prop}{K:av->Mem->Prop}{cE:Bool}(c5:mC P n cD f 0 f.toList=I aK)(r:rF cE cp f aK d aM ay)
 (cR:∀aN ae aL aP aW,bW w0 Γ0 n aP aW aN ae aL->K aN ae->Q .normal aL aP):∀bb:Nat,M5 cp P w0 Γ0 n f d aM ay s K Q bb/\M3 cE cp P w0 Γ0 n f d aM ay s K Q bb:=by
 obtain⟨da,cs⟩:=vS _ _ _ c5;simp only[dm] at cs;have aZ:=r.hE;have bu:∀i,i<f.size->∃o A,f[ay i]? =I o/\d[i]? =I A/\o_ P n cD f (ay i) o=I A:=λi G=>by have aB:=r.lt i G;obtain⟨A,E,Z⟩:=cs (ay i) (f[ay i]) (by simp[aB]);exact⟨_,A,by simp[aB],by rw[r.get i G];exact E,Z⟩
 have cw:d.length=aM.length:=by rw[r.len,r.tO]
 intro bb;have fin:∀(c:Array Bool)(a:Act)(w:World)(Γ:Env)(p:Nat)(val:Nat->V)(H:List (Nat×(Mem->Prop)))(X:av)(M:Mem),(∀i,i<f.size->c.getD i U=U)->
  p<=f.size->(∀i,p<=i->i<f.size->c.getD (ay i) U=ad)->(∀t,aE X t=aE (bv d val (λ_=>U) s p) t)->
  ((p=f.size/\K X M)∨∃o l,d[p]? =I o/\aM[p]? =I (I l)/\f8 P ad o X M (λaN ae=>i6 H l ae/\j6 P (d.drop (p+1)) (aM.drop (p+1)) (p+1) H aN ae K))->
  bW w0 Γ0 n w Γ (bv d val (λi=>c.getD (ay i) U) s p) M a->Q .normal a w:=by
  intro c a w Γ p val H X M a3 bL ah aH bj am;have c4:p=f.size:=by
   rcases eT p f.size with N|cY
   . have:=ah p (bk _) N;rw[a3 _ (r.lt p N)] at this;cases this
   . omega
  rcases bj with⟨_,cN⟩|⟨o,l,O,_⟩
  . refine cR X M a w Γ ⟨am.e1,λt=>?_,am.size,am.defers,am.ext⟩ cN;rw[aH t,f4 (val':=val) (L':=λi=>c.getD (ay i) U) (s0':=s) p rfl λi G _=>⟨(a3 _ (r.lt i J)).symm,λ_=>rfl⟩];exact am.fD t
  . have:=(az.1 O).1;have:=r.len;omega
 induction bb with
 |zero=>
  refine⟨?_,?_⟩
  . intro c a w Γ p val H X M b2 ao aR bo bL ah a2 aX aH bj am;have a3:∀i,i<f.size->c.getD i U=U:=λi G=>by
     have bC:(b8 f.size).countP (λi=>!c.getD i U)=0:=J;rw[List.countP_eq_zero] at bC;have:=bC i (hh.2 G);simpa using this
    have bO:Region.ready .any f c=[]:=by rw[List.eq_nil_iff_forall_not_mem];intro j u;obtain⟨E,o,Z,_⟩:=mem_ready.1 u;rw[a3 j (jC.1 Z).1] at E;cases E
    exact⟨bO,fin c a w Γ p val H X M a3 bL ah aH bj am⟩
  . intro c a w Γ p val H X M ar aq Y aI co bx bN b2 ao aR bo aU aG aQ b0 bc aY bn ah a2 aX aH ch am;have bC:(b8 f.size).countP (λi=>!c.getD i U)=0:=J;rw[List.countP_eq_zero] at bC;have E:=bC (ay p) (hh.2 (r.lt p J));rw[ah p (bk _) J J] at E;exact aJ rfl E
 |succ bb bP=>
  refine⟨?_,?_⟩
  . intro c a w Γ p val H X M b2 ao aR bo bL ah a2 aX aH bj am;have bl:∀i b bB,i<f.size->c.getD i b=c.getD i bB:=λi b bB G=>by simp[ao,G]
    have bs:∀i,i<f.size->c.getD i U=ad->(b8 f.size).countP (λj=>!(c.setIfInBounds i U).getD j U)<=bb:=λi G C=>by have:=uZ (p:=λj=>!c.getD j U) (p':=λj=>!(c.setIfInBounds i U).getD j U) (i:=i) (by simp only[C];rfl) (by simp[ao,G]) (λj u=>by simp only[getD_set_ne U (cA u)]) f.size;rw[aF G] at this;omega
    have br:∀i o,f[i]? =I o->(∀e∈o.after,Region.binds .any e=U->c.getD e.on ad=U)->
     (∀k o,f[k]? =I o->(c.setIfInBounds i U).getD k U=U->∀e∈o.after,Region.binds .any e=U->(c.setIfInBounds i U).getD e.on U=U):=λi o O ai k bp W ak e aj z=>by
     have c2:k<f.size:=(jC.1 W).1;have N:e.on<f.size:=by have:=lC f.toList 0 aZ k bp e (by simpa using W) aj z;omega
     have key:c.getD e.on U=U->(c.setIfInBounds i U).getD e.on U=U:=λh=>by
      by_cases bG:i=e.on
      . subst bG;simp[ao,N]
      . rw[getD_set_ne U bG];exact h
     by_cases bI:k=i
     . subst bI;rw[O] at W;simp only[aC] at W;subst W;exact key ((bl _ _ _ N).trans (ai e aj z))
     . rw[getD_set_ne U (cA bI)] at ak;exact key (aR k bp W ak e aj z)
    refine⟨λbO=>?_,λbd G=>?_⟩
    . have a3:∀m i,i<m->i<f.size->c.getD i U=U:=by
       intro m;induction m with
       |zero=>intro i h;exact aJ h (c9 i)
       |succ m cj=>
        intro i cZ G;cases C:c.getD i U with
        |true=>rfl
        |false=>
         have ai:i∈Region.ready .any f c:=mem_ready.2 ⟨C,f[i],by simp[G],λe aj z=>by
          have N:e.on<i:=by have:=lC f.toList 0 aZ i f[i] e (by simp[G]) aj z;omega
          exact(bl _ _ _ J).trans (cj e.on J J)⟩;rw[bO] at ai;cases ai
      exact fin c a w Γ p val H X M (λi G=>a3 (i+1) i J G) bL ah aH bj am
    . obtain⟨C,o,O,ai⟩:=mem_ready.1 G;have cb:bd<f.size:=(jC.1 O).1;obtain⟨i,T,rfl⟩:=r.sT bd cb;obtain⟨bp,A,W,R,bw⟩:=bu i T;rw[O] at W;simp only[aC] at W;subst W;have a5:∀j,g1 f j (ay i)->c.getD j U=U:=λj u=>
       oD aZ (L:=λj=>c.getD j U) aR (ay i+1) (ay i) J o O (λe aj z=>by
        have N:e.on<ay i:=by have:=lC f.toList 0 aZ (ay i) o e (by simpa using O) aj z;omega
        exact(bl _ _ _ J).trans (ai e aj z)) j u;have a6:∀k,k<f.size->c.getD k U=U->∀j,g1 f j k->c.getD j U=U:=λk ak cc j u=>by
       obtain⟨q,al,rfl⟩:=r.sT k ak;obtain⟨ok,_,bK,_⟩:=bu q al;exact oD aZ (L:=λj=>c.getD j U) aR (ay q+1) (ay q) J ok bK (aR (ay q) ok bK cc) j u
      have aa:∀j,j<f.size->j≠i->(c.setIfInBounds (ay i) U).getD (ay j) U=c.getD (ay j) U:=λj u ab=>getD_set_ne U λe=>ab (r.inj j i u T e.symm);have a0:(c.setIfInBounds (ay i) U).getD (ay i) U=U:=by simp[ao,r.lt i T]
      have aS:∀k y,d[k]? =I y->hU d k=y.dst:=λk y S=>by simp only[hU,S]
      have bt:∀k t,k<f.size->hU d k=I t->∃y,d[k]? =I y/\y.dst=I t:=λk t ak bh=>by obtain⟨_,y,_,S,_⟩:=bu k ak;exact⟨y,S,by rw[<-aS k y S];exact bh⟩
      by_cases bm:i<p
      .
       obtain⟨cF,bf,b7,b4⟩:=a2 i bm C;rw[R] at bf;simp only[aC] at bf;subst bf;obtain⟨bS,cx⟩:=r.still i A R b7;have bJ:∀t∈A.b3,aE (bv d val (λ_=>U) s i) t=aE (bv d val (λi=>c.getD (ay i) U) s p) t:=λt ap=>by
        have a9:bv d val (λk=>decide (k<i)) s p=bv d val (λk=>decide (k<i)) s i:=oC p J λj E _=>by simp;omega
        have a_:aE (bv d val (λ_=>U) s i) t=aE (bv d val (λk=>decide (k<i)) s i) t:=f4 i rfl λj u _=>⟨by simp[u],λ_=>rfl⟩;rw[a_,<-a9];refine f4 p rfl λk ak bH=>⟨?_,λ_=>rfl⟩;obtain⟨y,S,aV⟩:=bt k t J bH;rcases Nat.lt_trichotomy k i with N|heq|bR
        . rw[be N];rcases r.apart k i y A N T S R with z|af
          . exact(a5 _ z).symm
          . exact aJ ap ((jJ af).1 t aV)
        . subst heq;rw[C];simp
        . rw[h8];rcases r.apart i k A y bR J R S with z|af
          . cases aB:c.getD (ay k) U with
            |false=>rfl
            |true=>rw[a6 _ (r.lt k J) aB _ z] at C;cases C
          . exact aJ ap ((jJ af).2.2 t aV)
       have b5:=b4.move bS bJ;refine rB O bw am b5 ?_;rintro aN ae aL aP aW D ⟨cg,rfl⟩;refine bP.1 (c.setIfInBounds (ay i) U) aL aP aW p val H X ae (bs _ (r.lt i T) C) (by simp[ao]) (br _ o O ai) bo bL (λj u aA=>?_) (λj u F=>?_) aX aH bj ?_
       . rw[aa j aA J];exact ah j u aA
       . by_cases ab:j=i
         . subst ab;rw[a0] at F;cases F
         . rw[aa j J ab] at F;exact a2 j u F
       . refine⟨D.e1,λt=>?_,D.size,D.defers,D.ext⟩;have:=D.fD t;rw[cg t,fZ] at this;have e:aE (bv d val (λj=>(c.setIfInBounds (ay i) U).getD (ay j) U) s p) t=if A.dst=I t then val i else aE (bv d val (λj=>c.getD (ay j) U) s p) t:=by
          have bE:∀(L:Nat->Bool),aE (bv d val L s p) t=aE (bv d val (λj=>if j<f.size then L j else ad) s p) t:=λL=>f4 p rfl λj u _=>⟨by rw[aF J],λ_=>rfl⟩;rw[bE,bE (λj=>c.getD (ay j) U),<-aS i A R];refine wF (i:=i) (by rw[aF T];exact C) (by rw[aF T];exact a0) (λj ab=>?_) p bm λj E Z b1 bD=>?_
          . split
            . rename_i u;exact aa j u ab
            . rfl
          . rw[aF J];obtain⟨y,S,aV⟩:=bt j t J b1;rw[aS i A R] at bD;rcases r.apart i j A y E J R S with z|af
            . cases aB:c.getD (ay j) U with
              |false=>rfl
              |true=>rw[a6 _ (r.lt j J) aB _ z] at C;cases C
            . exact aJ aV ((jJ af).2.1 t bD)
         rw[e];exact this
      .
       rcases bj with⟨c4,_⟩|⟨c8,l,a8,b6,bU⟩
       . omega
       . have cz:p<f.size:=by have:=(az.1 a8).1;have:=r.len;omega
         obtain⟨cy,aY,cS⟩:=r.aw p c8 l bo a8 b6;by_cases ca:i=p;rotate_left
         .
          have N:p<i:=J;rcases aY with aY|⟨bN,aU,ar,aq,Y,aI,bx,aG,aQ,bc,aY⟩
          . have:=a5 _ (aY i N T);rw[ah p (bk _) cz] at this;cases this
          . have b_:i=p+1:=by
             rcases eT (p+1) i with h|h
             . have:=a5 _ (aY i h T).1;rw[ah p (bk _) cz] at this;cases this
             . omega
            subst b_;rw[R] at aQ;simp only[aC] at aQ;subst aQ;rw[aG] at a8;simp only[aC] at a8;subst a8;have c6:bW w0 Γ0 n w _ (bv d val (λi=>c.getD (ay i) U) s p) (M++[.dead]) a:=am.nd (am.e1.xh 0 (B:=.dead) ⟨rfl,rfl⟩) (Ext.si w Γ _);have ci:f8 P ad ⟨I Y,.alloc aI,ad,ag⟩ (bv d val (λi=>c.getD (ay i) U) s p) (M++[.dead]) (λaN ae=>aN=dQ (bv d val (λi=>c.getD (ay i) U) s p) Y (.ptr (M.length+1) 0)/\ae=M++[.dead,.box aI]):=by show _/\_;exact⟨by simp[a4],by simp⟩
            refine rB O bw c6 ci ?_;rintro aN ae aL aP aW D ⟨rfl,rfl⟩;have cU:∀t,aE (dQ (bv d val (λi=>(c.setIfInBounds (ay (p+1)) U).getD (ay i) U) s p) Y (.ptr (M.length+1) 0)) t=aE (dQ (bv d val (λi=>c.getD (ay i) U) s p) Y (.ptr (M.length+1) 0)) t:=λt=>by
             rw[j4,j4];split
             . rfl
             . exact f4 p rfl λj u _=>⟨aa j J J,λ_=>rfl⟩
            refine bP.2 (c.setIfInBounds (ay (p+1)) U) aL aP aW p val H X M ar aq Y aI l bx bN (bs _ (r.lt _ T) C) (by simp[ao]) (br _ o O ai) bo aU aG R b6 bc (λq E Z=>(aY q E Z).1) a0 (λj u aA ce=>?_) (λj u F=>?_) aX aH bU ⟨D.e1,λt=>?_,D.size,D.defers,D.ext⟩
            . rw[aa j aA ce];exact ah j u aA
            . rw[aa j J J] at F;exact a2 j u F
            . rw[cU t];exact D.fD t
         subst ca;rw[R] at a8;simp only[aC] at a8;subst a8;have bJ:∀t∈A.b3,aE X t=aE (bv d val (λi=>c.getD (ay i) U) s i) t:=λt ap=>by
          rw[aH t];refine f4 i rfl λk ak bH=>⟨?_,λ_=>rfl⟩;obtain⟨y,S,aV⟩:=bt k t J bH;rcases r.apart k i y A ak T S R with z|af
          . exact(a5 _ z).symm
          . exact aJ ap ((jJ af).1 t aV)
         have ci:f8 P ad A (bv d val (λi=>c.getD (ay i) U) s i) M (λaN ae=>∃v,aN=a4 (bv d val (λi=>c.getD (ay i) U) s i) A.dst v/\(i6 H l ae/\j6 P (d.drop (i+1)) (aM.drop (i+1)) (i+1) H (a4 X A.dst v) ae K)):=by obtain⟨c_,op,db,g⟩:=A;simp only at cy;subst cy;exact aes (s:=X) (λt ap=>bJ t (by simpa[bg.b3] using ap)) bU
         refine rB O bw am ci ?_;rintro aN ae aL aP aW D ⟨v,rfl,cf,bQ⟩;have bF:∀m,m<=i->∀t(L:Nat->Bool),aE (bv d (λj=>if j=i then v else val j) L s m) t=aE (bv d val L s m) t:=λm cd t L=>
          f4 m rfl λj u _=>⟨rfl,λ_=>ax J⟩;obtain⟨bq,aO,bV,cq,aD,ba,bA,ck,cl,cm,cn⟩:=vg (P:=P) (M:=ae) (K:=K) (s0:=s) cw r.um (d.length -(i+1)) (i+1) (λj=>if j=i then v else val j) H (a4 X A.dst v) rfl (by rw[r.len];omega) (by
          intro j x u an aT b9 bh bz aB;by_cases ab:j=i
          . subst ab;rw[b6] at aT;simp at aT
          . have:=aX j x J an aT b9 bh bz aB;show e7 P x _ bz (if j=i then v else val j);rw[ax ab];exact this.move (r.still j x an aT).1 λt _=>(bF j J t _).symm) (λt=>by
          simp only[bv,bi,if_true,aS i A R];rw[fZ,fZ,aH t,bF i (bk _) t]) bQ;rw[r.len] at ba;have c7:aO i=v:=(bA i J).trans (aF rfl);have bT:∀m,m<=i->∀t(L:Nat->Bool),aE (bv d aO L s m) t=aE (bv d val L s m) t:=λm cd t L=>
          f4 m rfl λj u _=>⟨rfl,λ_=>(bA j J).trans (ax J)⟩;refine bP.1 (c.setIfInBounds (ay i) U) aL aP aW bq aO bV cq ae (bs _ (r.lt i T) C) (by simp[ao]) (br _ o O ai) J ba (λj u aA=>?_) (λj u F=>?_) ck cl ?_ ?_
         . rw[aa j aA J];exact ah j J aA
         . rcases Nat.lt_trichotomy j i with N|heq|bR
           . rw[aa j J J] at F;obtain⟨x,an,a7,_⟩:=a2 j N F;rcases cS j x N an with z|⟨_,_,_,ar,aq,_,_,_,aG,_⟩|⟨bX,bY,bZ,cK⟩
             . rw[a5 _ z] at F;cases F
             . rw[an] at aG;simp only[aC] at aG;have:=(r.still j x an a7).1;rw[aG] at this;cases this
             . refine⟨x,an,a7,?_⟩;have:=aX j x N an a7 bY bZ ae (vQ cf j bX);rw[(bA j J).trans (ax J)];exact this.move (r.still j x an a7).1 λt _=>(bT j J t _).symm
           . subst heq;rw[a0] at F;cases F
           . exact cm j J u
         . rcases cn with⟨E,Z⟩|h
           . exact .inl ⟨E.trans r.len,Z⟩
           . exact .inr h
         . refine⟨D.e1,λt=>?_,D.size,D.defers,D.ext⟩;have a9:bv d aO (λj=>(c.setIfInBounds (ay i) U).getD (ay j) U) s bq=bv d aO (λj=>(c.setIfInBounds (ay i) U).getD (ay j) U) s (i+1):=
            oC bq J λj E Z=>by rw[aa j J J];exact ah j J J
           rw[a9];simp only[bv,a0,bi,aS i A R,c7];have a_:aE (bv d aO (λj=>(c.setIfInBounds (ay i) U).getD (ay j) U) s i) t=aE (bv d val (λj=>c.getD (ay j) U) s i) t:=by rw[bT i (bk _) t];exact f4 i rfl λj u _=>⟨aa j J J,λ_=>rfl⟩
           rw[fZ,a_,<-fZ];exact D.fD t
  . intro c a w Γ p val H X M ar aq Y aI co bx bN b2 ao aR bo aU aG aQ b0 bc aY bn ah a2 aX aH ch am;have bl:∀i b bB,i<f.size->c.getD i b=c.getD i bB:=λi b bB G=>by simp[ao,G]
    have bs:∀i,i<f.size->c.getD i U=ad->(b8 f.size).countP (λj=>!(c.setIfInBounds i U).getD j U)<=bb:=λi G C=>by have:=uZ (p:=λj=>!c.getD j U) (p':=λj=>!(c.setIfInBounds i U).getD j U) (i:=i) (by simp only[C];rfl) (by simp[ao,G]) (λj u=>by simp only[getD_set_ne U (cA u)]) f.size;rw[aF G] at this;omega
    have br:∀i o,f[i]? =I o->(∀e∈o.after,Region.binds .any e=U->c.getD e.on ad=U)->
     (∀k o,f[k]? =I o->(c.setIfInBounds i U).getD k U=U->∀e∈o.after,Region.binds .any e=U->(c.setIfInBounds i U).getD e.on U=U):=λi o O ai k bp W ak e aj z=>by
     have c2:k<f.size:=(jC.1 W).1;have N:e.on<f.size:=by have:=lC f.toList 0 aZ k bp e (by simpa using W) aj z;omega
     have key:c.getD e.on U=U->(c.setIfInBounds i U).getD e.on U=U:=λh=>by
      by_cases bG:i=e.on
      . subst bG;simp[ao,N]
      . rw[getD_set_ne U bG];exact h
     by_cases bI:k=i
     . subst bI;rw[O] at W;simp only[aC] at W;subst W;exact key ((bl _ _ _ N).trans (ai e aj z))
     . rw[getD_set_ne U (cA bI)] at ak;exact key (aR k bp W ak e aj z)
    have bM:c.getD (ay p) U=ad:=ah p (bk _) J J;refine⟨λbO=>?_,λbd G=>?_⟩
    . have a3:∀m i,i<m->i<f.size->c.getD i U=U:=by
       intro m;induction m with
       |zero=>intro i h;exact aJ h (c9 i)
       |succ m cj=>
        intro i cZ G;cases C:c.getD i U with
        |true=>rfl
        |false=>
         have ai:i∈Region.ready .any f c:=mem_ready.2 ⟨C,f[i],by simp[G],λe aj z=>by
          have N:e.on<i:=by have:=lC f.toList 0 aZ i f[i] e (by simp[G]) aj z;omega
          exact(bl _ _ _ J).trans (cj e.on J J)⟩;rw[bO] at ai;cases ai
      rw[a3 (ay p+1) (ay p) J (r.lt p J)] at bM;cases bM
    . obtain⟨C,o,O,ai⟩:=mem_ready.1 G;have cb:bd<f.size:=(jC.1 O).1;obtain⟨i,T,rfl⟩:=r.sT bd cb;obtain⟨bp,A,W,R,bw⟩:=bu i T;rw[O] at W;simp only[aC] at W;subst W;have a5:∀j,g1 f j (ay i)->c.getD j U=U:=λj u=>
       oD aZ (L:=λj=>c.getD j U) aR (ay i+1) (ay i) J o O (λe aj z=>by
        have N:e.on<ay i:=by have:=lC f.toList 0 aZ (ay i) o e (by simpa using O) aj z;omega
        exact(bl _ _ _ J).trans (ai e aj z)) j u;have a6:∀k,k<f.size->c.getD k U=U->∀j,g1 f j k->c.getD j U=U:=λk ak cc j u=>by
       obtain⟨q,al,rfl⟩:=r.sT k ak;obtain⟨ok,_,bK,_⟩:=bu q al;exact oD aZ (L:=λj=>c.getD j U) aR (ay q+1) (ay q) J ok bK (aR (ay q) ok bK cc) j u
      have aa:∀j,j<f.size->j≠i->(c.setIfInBounds (ay i) U).getD (ay j) U=c.getD (ay j) U:=λj u ab=>getD_set_ne U λe=>ab (r.inj j i u T e.symm);have a0:(c.setIfInBounds (ay i) U).getD (ay i) U=U:=by simp[ao,r.lt i T]
      have aS:∀k y,d[k]? =I y->hU d k=y.dst:=λk y S=>by simp only[hU,S]
      have bt:∀k t,k<f.size->hU d k=I t->∃y,d[k]? =I y/\y.dst=I t:=λk t ak bh=>by obtain⟨_,y,_,S,_⟩:=bu k ak;exact⟨y,S,by rw[<-aS k y S];exact bh⟩
      have cV:ar≠Y:=by
       rcases r.apart p (p+1) _ _ J aU aG aQ with z|af
       . rw[a6 _ (r.lt _ aU) bn _ z] at bM;cases bM
       . intro e;exact(jJ af).2.1 ar rfl (by rw[e])
      have cG:∀i y,i<p->c.getD (ay i) U=ad->d[i]? =I y->y.dst≠I Y/\Y∉y.b3:=λi y bm ct S=>by
       rcases r.apart i (p+1) y _ J aU S aQ with z|af
       . rw[a6 _ (r.lt _ aU) bn _ z] at ct;cases ct
       . exact⟨λe=>(jJ af).2.1 Y e rfl,(jJ af).2.2 Y rfl⟩
      by_cases bm:i<p
      .
       obtain⟨cF,bf,b7,b4⟩:=a2 i bm C;rw[R] at bf;simp only[aC] at bf;subst bf;obtain⟨bS,cx⟩:=r.still i A R b7;obtain⟨cW,cX⟩:=cG i A bm C R;have bJ:∀t∈A.b3,aE (bv d val (λ_=>U) s i) t=aE (dQ (bv d val (λi=>c.getD (ay i) U) s p) Y (.ptr (M.length+1) 0)) t:=λt ap=>by
        rw[j4,ax (λe=>cX (by rw[<-e];exact ap))];have a9:bv d val (λk=>decide (k<i)) s p=bv d val (λk=>decide (k<i)) s i:=oC p J λj E _=>by simp;omega
        have a_:aE (bv d val (λ_=>U) s i) t=aE (bv d val (λk=>decide (k<i)) s i) t:=f4 i rfl λj u _=>⟨by simp[u],λ_=>rfl⟩;rw[a_,<-a9];refine f4 p rfl λk ak bH=>⟨?_,λ_=>rfl⟩;obtain⟨y,S,aV⟩:=bt k t J bH;rcases Nat.lt_trichotomy k i with N|heq|bR
        . rw[be N];rcases r.apart k i y A N T S R with z|af
          . exact(a5 _ z).symm
          . exact aJ ap ((jJ af).1 t aV)
        . subst heq;rw[C];simp
        . rw[h8];rcases r.apart i k A y bR J R S with z|af
          . cases aB:c.getD (ay k) U with
            |false=>rfl
            |true=>rw[a6 _ (r.lt k J) aB _ z] at C;cases C
          . exact aJ ap ((jJ af).2.2 t aV)
       have b5:=(b4.a1 bS (cx.resolve_right λq=>by rw[bN] at q;cases q.1) [.dead,.box aI]).move bS bJ;refine rB O bw am b5 ?_;rintro aN ae aL aP aW D ⟨cg,rfl⟩;refine bP.2 (c.setIfInBounds (ay i) U) aL aP aW p val H X M ar aq Y aI co bx bN (bs _ (r.lt i T) C) (by simp[ao]) (br _ o O ai) bo aU aG aQ b0 bc aY (by rw[aa (p+1) aU J];exact bn) (λj u aA ce=>?_) (λj u F=>?_) aX aH ch ⟨D.e1,λt=>?_,D.size,D.defers,D.ext⟩
       . rw[aa j aA J];exact ah j u aA ce
       . by_cases ab:j=i
         . subst ab;rw[a0] at F;cases F
         . rw[aa j J ab] at F;exact a2 j u F
       . have:=D.fD t;rw[cg t,fZ,j4] at this;rw[j4];have e:aE (bv d val (λj=>(c.setIfInBounds (ay i) U).getD (ay j) U) s p) t=if A.dst=I t then val i else aE (bv d val (λj=>c.getD (ay j) U) s p) t:=by
          have bE:∀(L:Nat->Bool),aE (bv d val L s p) t=aE (bv d val (λj=>if j<f.size then L j else ad) s p) t:=λL=>f4 p rfl λj u _=>⟨by rw[aF J],λ_=>rfl⟩;rw[bE,bE (λj=>c.getD (ay j) U),<-aS i A R];refine wF (i:=i) (by rw[aF T];exact C) (by rw[aF T];exact a0) (λj ab=>?_) p bm λj E Z b1 bD=>?_
          . split
            . rename_i u;exact aa j u ab
            . rfl
          . rw[aF J];obtain⟨y,S,aV⟩:=bt j t J b1;rw[aS i A R] at bD;rcases r.apart i j A y E J R S with z|af
            . cases aB:c.getD (ay j) U with
              |false=>rfl
              |true=>rw[a6 _ (r.lt j J) aB _ z] at C;cases C
            . exact aJ aV ((jJ af).2.1 t bD)
         rw[e];by_cases ap:t=Y
         . rw[aF ap];rw[ax (λe=>cW (by rw[e,ap])),aF ap] at this;exact this
         . rw[ax ap];rw[ax ap] at this;exact this
      .
       have ca:i=p:=by
        rcases eT p i with N|cY
        . by_cases b_:i=p+1
          . subst b_;rw[bn] at C;cases C
          . have:=a5 _ (aY i J T);rw[bM] at this;cases this
        . omega
       subst ca;rw[R] at aG;simp only[aC] at aG;subst aG;refine Mo O bw am (id:=M.length) (by simp) ?_;intro aL aP aW D;have cQ:(M++[au.dead,.box aI]).set M.length (.box aq)=M++[.box aq]++[.box aI]:=by simp
       rw[cQ] at D;have cC:i6 H co (M++[.box aq])/\j6 P (d.drop (i+1)) (aM.drop (i+1)) (i+1) H (dQ X ar (.ptr M.length 0)) (M++[.box aq]) K:=ch;have cI:d.drop (i+1)=d[i+1]'(by rw[r.len];omega)::d.drop (i+1+1):=mM (by rw[r.len];omega);have cJ:aM.drop (i+1)=aM[i+1]'(by rw[r.tO];omega)::aM.drop (i+1+1):=mM (by rw[r.tO];omega);have cL:=(az.1 aQ).2;have cM:=(az.1 bc).2;rw[cI,cJ,cL,cM] at cC;have bU:i6 H bx (M++[.box aq]++[.box aI])/\j6 P (d.drop (i+1+1)) (aM.drop (i+1+1)) (i+1+1) H (dQ (dQ X ar (.ptr M.length 0)) Y (.ptr (M++[au.box aq]).length 0)) (M++[.box aq]++[.box aI]) K:=cC.2;obtain⟨cf,bQ⟩:=bU;have c3:(M++[au.box aq]).length=M.length+1:=by simp
       rw[c3] at bQ;obtain⟨_,_,cT⟩:=r.aw (i+1) _ bx J aQ bc;have bF:∀m,m<=i->∀t(L:Nat->Bool),aE (bv d (λj=>if j=i then .ptr M.length 0 else if j=i+1 then .ptr (M.length+1) 0 else val j) L s m) t=aE (bv d val L s m) t:=λm cd t L=>
        f4 m rfl λj u _=>⟨rfl,λ_=>by rw[ax J,ax J]⟩;have cr:∀t(L:Nat->Bool),L i=U->L (i+1)=U->aE (bv d (λj=>if j=i then .ptr M.length 0 else if j=i+1 then .ptr (M.length+1) 0 else val j) L s (i+1+1)) t=if t=Y then .ptr (M.length+1) 0 else if t=ar then .ptr M.length 0 else aE (bv d val L s i) t:=λt L cO cP=>by
        simp only[bv,cO,cP,bi,aS i _ R,aS (i+1) _ aQ,fZ,aC,if_true,ax (show¬i+1=i by omega),eq_comm (a:=Y),eq_comm (a:=ar)];rw[bF i (bk _) t]
       obtain⟨bq,aO,bV,cq,aD,ba,bA,ck,cl,cm,cn⟩:=vg (P:=P) (M:=M++[au.box aq]++[au.box aI]) (K:=K) (s0:=s) cw r.um (d.length -(i+1+1)) (i+1+1) (λj=>if j=i then .ptr M.length 0 else if j=i+1 then .ptr (M.length+1) 0 else val j) H (dQ (dQ X ar (.ptr M.length 0)) Y (.ptr (M.length+1) 0)) rfl (by rw[r.len];omega) (by
        intro j x u an aT b9 bh bz aB;by_cases ab:j=i
        . subst ab;rw[b0] at aT;simp at aT
        by_cases cv:j=i+1
        . subst cv;rw[bc] at aT;simp at aT
        have:=aX j x J an aT b9 bh bz aB;show e7 P x _ bz (if j=i then _ else if j=i+1 then _ else val j);rw[ax ab,ax cv];exact this.move (r.still j x an aT).1 λt _=>(bF j J t _).symm) (λt=>by
        rw[cr t _ rfl rfl,j4,j4,aH t]) bQ;rw[r.len] at ba;have bT:∀m,m<=i->∀t(L:Nat->Bool),aE (bv d aO L s m) t=aE (bv d val L s m) t:=λm cd t L=>
        f4 m rfl λj u _=>⟨rfl,λ_=>by rw[bA j J,ax J,ax J]⟩;have cB:(c.setIfInBounds (ay i) U).getD (ay (i+1)) U=U:=by rw[aa (i+1) aU J];exact bn
       refine bP.1 (c.setIfInBounds (ay i) U) aL aP aW bq aO bV cq (M++[au.box aq]++[au.box aI]) (bs _ (r.lt i T) C) (by simp[ao]) (br _ o O ai) J ba (λj u aA=>?_) (λj u F=>?_) ck cl ?_ ?_
       . rw[aa j aA J];exact ah j J aA J
       . by_cases cu:j<i
         . rw[aa j J J] at F;obtain⟨x,an,a7,_⟩:=a2 j cu F;rcases cT j x J an with z|⟨E,_⟩|⟨bX,bY,bZ,cK⟩
           . rw[a6 _ (r.lt _ aU) bn _ z] at F;cases F
           . omega
           . refine⟨x,an,a7,?_⟩;have:=aX j x cu an a7 bY bZ _ (vQ cf j bX);rw[bA j J,ax J,ax J];exact this.move (r.still j x an a7).1 λt _=>(bT j J t _).symm
         by_cases c0:j=i
         . subst c0;rw[a0] at F;cases F
         by_cases c1:j=i+1
         . subst c1;rw[cB] at F;cases F
         exact cm j J u
       . rcases cn with⟨E,Z⟩|h
         . exact .inl ⟨E.trans r.len,Z⟩
         . exact .inr h
       . refine⟨D.e1,λt=>?_,D.size,D.defers,D.ext⟩;have a9:bv d aO (λj=>(c.setIfInBounds (ay i) U).getD (ay j) U) s bq=bv d aO (λj=>(c.setIfInBounds (ay i) U).getD (ay j) U) s (i+1+1):=
          oC bq J λj E Z=>by rw[aa j J J];exact ah j J J J
         have a_:aE (bv d aO (λj=>(c.setIfInBounds (ay i) U).getD (ay j) U) s (i+1+1)) t=aE (bv d (λj=>if j=i then .ptr M.length 0 else if j=i+1 then .ptr (M.length+1) 0 else val j) (λj=>(c.setIfInBounds (ay i) U).getD (ay j) U) s (i+1+1)) t:=
          f4 _ rfl λj u _=>⟨rfl,λ_=>bA j u⟩;have cH:aE (bv d val (λj=>(c.setIfInBounds (ay i) U).getD (ay j) U) s i) t=aE (bv d val (λj=>c.getD (ay j) U) s i) t:=
          f4 i rfl λj u _=>⟨aa j J J,λ_=>rfl⟩;rw[a9,a_,cr t _ a0 cB,cH];have:=D.fD t;rw[j4,j4] at this;by_cases E:t=Y
         . have Z:¬t=ar:=λe=>cV (by rw[<-e,E]);rw[aF E];rw[ax Z,aF E] at this;exact this
         . rw[ax E];by_cases Z:t=ar
           . rw[aF Z];rw[aF Z] at this;exact this
           . rw[ax Z];rw[ax Z,ax E] at this;exact this
def Uz{id:Nat}{b:Array Oper}{aK:List bg}{x:List bg×List (Option (List Nat))}{H:List Nat}{Q:Exit->Act->World->Prop}{K:av->Mem->Prop}(W:P.follows .mixedOrders=U)(E:mC P n H b 0 b.toList=I aK){af:Bool}(V:xB af b aK=I x)
 (F:bW w0 Γ0 n w Γ s M a)(G:j6 P x.1 x.2 0 [] s M K)(S:∀L z A N ai,bW w0 Γ0 n N ai L z A->K L z->Q .normal A N):(Code.region id b U).wp P Q a w:=by
 obtain⟨f,R⟩:=x;obtain⟨ay,c⟩:=Zw V;simp only at G;obtain⟨al,B⟩:=vS _ _ _ E;simp only[dm] at B;have aj:=c.hE;have am:∀i,i<b.size->∃o m,b[ay i]? =I o/\f[i]? =I m/\o_ P n H b (ay i) o=I m:=λi d=>by have D:=c.lt i d;obtain⟨m,q,r⟩:=B (ay i) (b[ay i]) (by simp[D]);exact⟨_,m,by simp[D],by rw[c.get i d];exact q,r⟩
 have T:f.length=R.length:=by rw[c.len,c.tO]
 have ae:=E7 (P:=P) (w0:=w0) (Γ0:=Γ0) (s:=s) (K:=K) E c S;refine wp_region_any W ?_;have g:bW w0 Γ0 n w.drew Γ s M a:=F.nd F.e1.drew (Ext.drew w Γ);obtain⟨v,y,O,ah,_,ba,_,Y,Z,aa,ab⟩:=vg (P:=P) (M:=M) (K:=K) (s0:=s) T c.um f.length 0 (λ_=>.undef) [] s J (c_ _) (λi o d=>aJ d (c9 i)) (λt=>rfl) (by simpa using G);rw[c.len] at ba;have u:∀i,i<b.size->(Array.replicate b.size ad).getD i U=ad:=λi d=>by simp[d]
 refine(ae b.size).1 _ a w.drew Γ v y O ah M ?_ (by simp) ?_ (c_ _) ba (λi _ d=>u _ (c.lt i d)) (λi d _=>aa i (c_ _) d) Y Z ?_ ?_
 . have:=List.countP_le_length (p:=λi=>!(Array.replicate b.size ad).getD i U) (l:=b8 b.size);simpa using this
 . intro k o X C;rw[u k (jC.1 X).1] at C;cases C
 . rcases ab with⟨q,r⟩|h
   . exact .inl ⟨q.trans c.len,r⟩
   . exact .inr h
 . refine⟨g.e1,λt=>?_,g.size,g.defers,g.ext⟩;have e:bv f y (λi=>(Array.replicate b.size ad).getD (ay i) U) s v=bv f y (λi=>(Array.replicate b.size ad).getD (ay i) U) s 0:=
    oC v (c_ _) λj _ ak=>u _ (c.lt j J);rw[e];exact g.fD t
end
section
variable{P:Program}{w0 w:World}{Γ0 Γ:Env}{M:Mem}{s bP:av}{a:Act}{n:Nat}
def YS{k:Nat}{d:Bool}{x v:V}{M:Mem}{n:Nat}{B:au}(c:M[n]? =I .dead)(h:dZ k d x M=I v):dZ k d x (M.set n B)=I v:=by
 cases x<;>simp only[dZ] at h⊢<;>first|exact h|skip
 case ptr id off=>
  cases a:M[id]? with
  |none=>rw[a] at h;cases h
  |some e=>
   by_cases b:n=id
   . subst b;rw[c] at a;cases a;rw[c] at h;first|(cases h;done)|(cases f<;>cases h)
   . rw[bo b];exact h
 case df id ver row off=>
  cases a:M[id]? with
  |none=>rw[a] at h;cases h
  |some e=>
   by_cases b:n=id
   . subst b;rw[c] at a;cases a;rw[c] at h;first|(cases h;done)|(cases f<;>cases h)
   . rw[bo b];exact h
def ab7{k:Nat}{x:V}{r:List (List V)}{M:Mem}{n:Nat}{B:au}(b:M[n]? =I .dead)(h:dg k M x=I r):dg k (M.set n B) x=I r:=by
 cases x<;>simp only[dg] at h⊢<;>first|exact h|skip
 case an id _ _ _=>
  cases a:M[id]? with
  |none=>rw[a] at h;cases h
  |some d=>
   by_cases c:n=id
   . subst c;rw[b] at a;cases a;rw[b] at h;first|(cases h;done)|(cases e<;>cases h)
   . rw[bo c];exact h
def YF{x v:V}{M:Mem}{n:Nat}{B:au}(b:M[n]? =I .dead)(h:eY x M=I v):eY x (M.set n B)=I v:=by
 cases x<;>simp only[eY] at h⊢<;>first|exact h|skip
 case an id _ _ _=>
  cases a:M[id]? with
  |none=>rw[a] at h;cases h
  |some d=>
   by_cases c:n=id
   . subst c;rw[b] at a;cases a;rw[b] at h;first|(cases h;done)|(cases e<;>cases h)
   . rw[bo c];exact h
def XW{k:Nat}{x i v:V}{M:Mem}{n:Nat}{B:au}(c:M[n]? =I .dead)(h:d8 k x i M=I v):d8 k x i (M.set n B)=I v:=by
 cases i<;>simp only[d8] at h⊢<;>first|exact h|skip
 case int f q=>
  cases b:decide (0<=q) with
  |false=>rw[b] at h;cases h
  |true=>
   rw[b] at h;simp only[bi] at h⊢;cases x<;>simp only at h⊢<;>first|exact h|skip
   case an id _ _ _=>
    cases a:M[id]? with
    |none=>rw[a] at h;cases h
    |some e=>
     by_cases d:n=id
     . subst d;rw[c] at a;cases a;rw[c] at h;first|(cases h;done)|(cases g<;>cases h)
     . rw[bo d];exact h
def acH{k:Nat}{x v:V}{e a b:Option V}{M:Mem}{n:Nat}{B:au}(d:M[n]? =I .dead)(h:eQ k x e a b M=I v):eQ k x e a b (M.set n B)=I v:=by
 cases x<;>simp only[eQ] at h⊢<;>first|exact h|skip
 case an id _ _ _=>
  cases c:M[id]? with
  |none=>rw[c] at h;cases b<;>cases h
  |some f=>
   by_cases a:n=id
   . subst a;rw[d] at c;cases c;rw[d] at h;first|(cases h;done)|(cases b<;>cases h)
   . rw[bo a];exact h
theorem Zl{c:en}{m key:V}{r:Option V}{M:Mem}{n:Nat}{B:au}(b:M[n]? =I .dead)(h:kv c M m key=I r):kv c (M.set n B) m key=I r:=by
 unfold kv at h⊢;cases e:iW c key with
 |false=>rw[e] at h;cases h
 |true=>
  rw[e] at h;simp only[bi] at h⊢;cases m<;>simp only at h⊢<;>first|exact h|skip
  case map id=>
   cases a:M[id]? with
   |none=>rw[a] at h;cases h
   |some f=>
    by_cases d:n=id
    . subst d;rw[b] at a;cases a;rw[b] at h;first|(cases h;done)|(cases g<;>cases h)
    . rw[bo d];exact h
def aaE{o:cH}{v:V}{M:Mem}{n:Nat}{B:au}(b:M[n]? =I .dead)(h:gv o s M=I v):gv o s (M.set n B)=I v:=by
 cases o<;>simp only[gv] at h⊢<;>first|exact h|exact YS b h|exact YF b h|exact XW b h|exact acH b h|skip
 case nN x=>
  unfold oG at h⊢;cases a:dg 1 M (aw s x) with
  |none=>rw[a] at h;cases h
  |some r=>rw[a] at h;rw[ab7 b a];exact h
 case lookup c z d ok m k=>
  unfold lJ at h⊢;cases a:kv c M (aw s m) (aw s k) with
  |none=>rw[a] at h;cases h
  |some r=>rw[a] at h;rw[Zl b a];exact h
theorem e7.ad7{o:bg}{v:V}(q:o.op.gb=ad)(l:o.op.hX=ad)(h:e7 P o s M v){n:Nat}{B:au}(m:M[n]? =I .dead):e7 P o s (M.set n B) v:=by
 obtain⟨c,op,d,g⟩:=o;have key:∀(a r:av),wpOp P ad op c d a M (jl r M)->wpOp P ad op c d a (M.set n B) (jl r (M.set n B)):=λa r h=>by rw[s4 q l] at h⊢;obtain⟨t,i,j,k,_⟩:=h;exact⟨t,aaE m i,j,k,rfl⟩
 have e:∀(a r:av),jl r M a M->jl r (M.set n B) a (M.set n B):=λa r h=>⟨h.1,rfl⟩;unfold e7 f8 at h⊢;cases g with
 |none=>exact key _ _ h
 |some f=>
  obtain⟨g,w⟩:=f;simp only at h⊢;cases p:aE s g<;>rw[p] at h<;>(try simp only at h)<;>(try simp only)<;>first|exact h.elim|skip
  case bool b=>cases w<;>cases b<;>first|exact key _ _ h|exact e _ _ h
  case tuple u=>
   cases u with
   |nil=>exact e _ _ h
   |cons _ _=>exact h.elim
theorem Aw{aK:List bg}{a:List (Option (List Nat))}{K:av->Mem->Prop}{s0:av}{z:List V}{n c:Nat}(am:aK.length=a.length)(S:c<aK.length)(X:∃l,a[c]? =I (I l))(N:∀(i:Nat)(o:bg),aK[i]? =I o->a[i]? =I ag->o.op.gb=ad/\(o.op.hX=ad∨o.op.sn=U)):
 ∀(m q:Nat)(val:Nat->V)(H:List (Nat×(Mem->Prop)))(s:av),c -q=m->q<=c->qo P aK a val s0 H q->(∀t,aE s t=aE (bv aK val (λ_=>U) s0 q) t)->ll P z n c (aK.drop q) (a.drop q) q H s M K->
 ∃(p:Nat)(g:Nat->V)(w:List (Nat×(Mem->Prop)))(D:av),q<=p/\p<=c/\(∀i,i<q->g i=val i)/\qo P aK a g s0 w p/\(∀t,aE D t=aE (bv aK g (λ_=>U) s0 p) t)/\
  (∀i,q<=i->i<p->∃o,aK[i]? =I o/\a[i]? =I ag/\e7 P o (bv aK g (λ_=>U) s0 i) M (g i))/\
  ∃o l,aK[p]? =I o/\a[p]? =I (I l)/\ll P z n c (o::aK.drop (p+1)) (I l::a.drop (p+1)) p w D M K
 |0,q,val,H,s,an,al,B,ae,h=>by have e:q=c:=J;subst e;obtain⟨l,b⟩:=X;have E:aK.drop q=aK[q]::aK.drop (q+1):=mM S;have F:a.drop q=a[q]'J::a.drop (q+1):=mM J;have ai:a[q]'J=I l:=(az.1 b).2;rw[E,F,ai] at h;exact⟨q,val,H,s,bk _,bk _,λ_ _=>rfl,B,ae,λi y A=>J,_,l,by simp,b,h⟩
 |m+1,q,val,H,s,an,al,B,ae,h=>by
  have ao:q<aK.length:=J;have E:aK.drop q=aK[q]::aK.drop (q+1):=mM ao;have F:a.drop q=a[q]'J::a.drop (q+1):=mM J;have k:aK[q]? =I aK[q]:=by simp
  have G:a[q]? =I (a[q]'J):=by simp
  rw[E,F] at h;generalize aK[q]=o at*;generalize a[q]'J=f at*;cases f with
  |some l=>exact⟨q,val,H,s,bk _,al,λ_ _=>rfl,B,ae,λi y A=>J,o,l,k,G,h⟩
  |none=>
   obtain⟨C,af⟩:=N q o k G;simp only[ll] at h;obtain⟨v,Q,y,A,aa⟩:=Cc C h;have cut:∀i,i<=q->∀t,aE (bv aK (λi=>if i=q then v else val i) (λ_=>U) s0 i) t=aE (bv aK val (λ_=>U) s0 i) t:=λi Z t=>f4 i rfl λj ak _=>⟨rfl,λ_=>ax J⟩;have ah:hU aK q=o.dst:=by simp only[hU,k]
   obtain⟨p,g,w,D,aD,ba,bA,ap,aq,ar,au⟩:=Aw am S X N m (q+1) (λi=>if i=q then v else val i) ((q,e_ P o s (m2 Q o.dst))::H) Q J J (by
    intro i x Z u W Y L R b;by_cases r:i=q
    . subst r;rw[k] at u;simp only[aC] at u;subst u;have e:dG i i=U:=by simp
      simp only[k6,e] at b;obtain⟨d,T⟩:∃d,o.dst=I d:=Option.ne_none_iff_exists'.1 L;have O:m2 Q o.dst=v:=by rw[T,m2,A d,fZ,aF T]
      rw[O] at b;have:=Et C af Y y L b;simp only[if_true];exact this.move C λt _=>(ae t).trans (cut i (bk _) t).symm
    . have e:dG q i=ad:=by
       cases ab:dG q i with
       |false=>rfl
       |true=>exact aJ (l2 ab).symm r
      simp only[k6,e] at b;have:=B i x J u W Y L R b;show e7 P x _ R (if i=q then v else val i);rw[ax r];exact this.move (N i x u W).1 λt _=>(cut i J t).symm) (λt=>by
    rw[A t];simp only[bv,bi,ah,if_true];rw[fZ,fZ,ae t,cut q (bk _) t]) aa;refine⟨p,g,w,D,J,ba,λi Z=>(bA i J).trans (ax J),ap,aq,λi aw aj=>?_,au⟩;by_cases r:i=q
   . subst r;refine⟨o,k,G,?_⟩;have O:g i=v:=(bA i J).trans (aF rfl);rw[O];refine y.move C λt _=>?_;rw[ae t];exact f4 i rfl λj ak _=>⟨rfl,λ_=>((bA j J).trans (ax J)).symm⟩
   . exact ar i J aj
structure yF(gH:Array Oper)(aK kR:List bg)(kV:List (Option (List Nat)))(ay:Nat->Nat)(c d:Nat)(z:List V):Prop where
 Iv:rF ad (c+1) gH aK kR kV ay
 lt:c<gH.size
 alloc:kR[c]? =I ⟨I d,.alloc z,ad,ag⟩
 E0:∃l,kV[c]? =I (I l)
 before:∀(p:Nat)(o:bg)(l:List Nat),p<c->kR[p]? =I o->kV[p]? =I (I l)->o.guard=ag/\(∀i,p<i->i<gH.size->i≠c->g1 gH (ay p) (ay i))/\
  ∀(j:Nat)(x:bg),j<p->kR[j]? =I x->g1 gH (ay j) (ay p)∨(j∈l/\x.guard=ag/\x.dst≠ag/\kV[j]? =I ag)
 Df:∀(l:List Nat),kV[c]? =I (I l)->(∀i,c<i->i<gH.size->g1 gH (ay c) (ay i))/\∀(j:Nat)(x:bg),j<c->kR[j]? =I x->kV[j]? =I ag->g1 gH (ay j) (ay c)∨(j∈l/\x.guard=ag/\x.dst≠ag)
abbrev M4(P:Program)(w0:World)(Γ0:Env)(n:Nat)(g:Array Oper)(f:List bg)(h:List (Option (List Nat)))(ay:Nat->Nat)(s:av)(K:av->Mem->Prop)(Q:Exit->Act->World->Prop)(c d id:Nat)(z:List V)(j:Nat):Prop:=
 ∀(e:Bool)(b:Array Bool)(a:Act)(w:World)(Γ:Env)(p:Nat)(val:Nat->V)(H:List (Nat×(Mem->Prop)))(m:av)(M:Mem),
    (b8 g.size).countP (λi=>!b.getD i U)<=j->b.size=g.size->
    (∀k o,g[k]? =I o->b.getD k U=U->∀e∈o.after,Region.binds .any e=U->b.getD e.on U=U)->
    p<=c->(e=U->p<c)->M[id]? =I .dead->b.getD (ay c) U=e->(∀i,p<=i->i<g.size->i≠c->b.getD (ay i) U=ad)->
    (∀i,i<p->b.getD (ay i) U=ad->∃o,f[i]? =I o/\h[i]? =I ag/\e7 P o (bv f val (λ_=>U) s i) M (val i))->
    qo P f h val s H p->(∀t,aE m t=aE (bv f val (λ_=>U) s p) t)->
    (∃o l,f[p]? =I o/\h[p]? =I (I l)/\ll P z id c (o::f.drop (p+1)) (I l::h.drop (p+1)) p H m M K)->
    bW w0 Γ0 n w Γ (bif e then dQ (bv f val (λi=>b.getD (ay i) U) s p) d (.ptr id 0) else bv f val (λi=>b.getD (ay i) U) s p) (bif e then M.set id (.box z) else M) a->
    wpAny P .any g Q j b a w
theorem Yl{A:Array Oper}{aK u:List bg}{aL:List (Option (List Nat))}{ay:Nat->Nat}{c d id:Nat}{z:List V}{cx:List Nat}{Q:Exit->Act->World->Prop}{K:av->Mem->Prop}(cu:mC P n cx A 0 A.toList=I aK)(aB:yF A aK u aL ay c d z)
 (cz:∀aY aT am aA aI,bW w0 Γ0 n aA aI aY aT am->K aY aT->Q .normal am aA):∀an:Nat,M4 P w0 Γ0 n A u aL ay s K Q c d id z an:=by
 have B:=aB.Iv;obtain⟨c6,cl⟩:=vS _ _ _ cu;simp only[dm] at cl;have a2:=B.hE;have aU:=aB.lt;have bC:∀i,i<A.size->∃o F,A[ay i]? =I o/\u[i]? =I F/\o_ P n cx A (ay i) o=I F:=λi aq=>by have aG:=B.lt i aq;obtain⟨F,D,O⟩:=cl (ay i) (A[ay i]) (by simp[aG]);exact⟨_,F,by simp[aG],by rw[B.get i aq];exact D,O⟩
 have cr:u.length=aL.length:=by rw[B.len,B.tO]
 have cZ:=E7 (P:=P) (w0:=w0) (Γ0:=Γ0) (s:=s) (K:=K) cu B cz;have cN:∀k y,u[k]? =I y->hU u k=y.dst:=λk y ab=>by simp only[hU,ab]
 have cc:∀(an:Nat)(r:Array Bool)(a:Act)(w:World)(Γ:Env)(val:Nat->V)(H:List (Nat×(Mem->Prop)))(ak:av)(M:Mem),
  (b8 A.size).countP (λi=>!r.getD i U)<=an->r.size=A.size->
  (∀k o,A[k]? =I o->r.getD k U=U->∀e∈o.after,Region.binds .any e=U->r.getD e.on U=U)->
  r.getD (ay c) U=U->(∀i,c<i->i<A.size->r.getD (ay i) U=ad)->
  (∀i,i<c->r.getD (ay i) U=ad->∃o,u[i]? =I o/\aL[i]? =I ag/\e7 P o (bv u val (λ_=>U) s i) M (val i))->
  qo P u aL val s H c->(∀t,aE ak t=aE (bv u val (λ_=>U) s c) t)->
  (∃o l,u[c]? =I o/\aL[c]? =I (I l)/\ll P z id c (o::u.drop (c+1)) (I l::aL.drop (c+1)) c H ak M K)->
  bW w0 Γ0 n w Γ (dQ (bv u val (λi=>r.getD (ay i) U) s c) d (.ptr id 0)) (M.set id (.box z)) a->wpAny P .any A Q an r a w:=by
  intro an r a w Γ val H ak M bR aw aR au ap a1 aQ aW ⟨o,l,T,aG,cv⟩ az;rw[aB.alloc] at T;simp only[aC] at T;subst T;have E:dG c c=U:=by simp
  simp only[ll,E] at cv;obtain⟨b6,bj⟩:=cv;have bj:j6 P (u.drop (c+1)) (aL.drop (c+1)) (c+1) H (dQ ak d (.ptr id 0)) (M.set id (.box z)) K:=bj;obtain⟨cC,cG⟩:=aB.Df l aG;have a8:∀k,k<A.size->r.getD k U=U->∀j,g1 A j k->r.getD j U=U:=λk ai b0 j C=>by obtain⟨q,al,rfl⟩:=B.sT k ai;obtain⟨ok,_,bp,_⟩:=bC q al;exact oD a2 (L:=λj=>r.getD j U) aR (ay q+1) (ay q) J ok bp (aR (ay q) ok bp b0) j C
  have bb:∀m,m<=c->∀t(L:Nat->Bool),aE (bv u (λj=>if j=c then .ptr id 0 else val j) L s m) t=aE (bv u val L s m) t:=λm b1 t L=>
   f4 m rfl λj C _=>⟨rfl,λ_=>ax J⟩;have ci:hU u c=I d:=cN c _ aB.alloc;obtain⟨ae,S,bw,bH,aD,ba,bA,bE,bF,b_,bG⟩:=vg (P:=P) (M:=M.set id (.box z)) (K:=K) (s0:=s) cr B.um (u.length -(c+1)) (c+1) (λj=>if j=c then .ptr id 0 else val j) H (dQ ak d (.ptr id 0)) rfl (by rw[B.len];omega) (by
   intro j x C W aS bV ao af cR;by_cases ar:j=c
   . subst ar;rw[aG] at aS;simp at aS
   . have:=aQ j x J W aS bV ao af cR;show e7 P x _ af (if j=c then _ else val j);rw[ax ar];exact this.move (B.still j x W aS).1 λt _=>(bb j J t _).symm) (λt=>by
   simp only[bv,bi,if_true,ci];rw[j4,fZ,aW t,bb c (bk _) t];simp only[aC,eq_comm]) bj;rw[B.len] at ba;have bt:∀m,m<=c->∀t(L:Nat->Bool),aE (bv u S L s m) t=aE (bv u val L s m) t:=λm b1 t L=>
   f4 m rfl λj C _=>⟨rfl,λ_=>(bA j J).trans (ax J)⟩;refine(cZ an).1 r a w Γ ae S bw bH (M.set id (.box z)) bR aw aR aD ba (λj C a0=>ap j J a0) (λj C G=>?_) bE bF ?_ ?_
  . rcases Nat.lt_trichotomy j c with X|heq|bY
    . obtain⟨x,W,aV,_⟩:=a1 j X G;rcases cG j x X W aV with E|⟨bK,bL,bM⟩
      . rw[a8 _ (B.lt c aU) au _ E] at G;cases G
      . refine⟨x,W,aV,?_⟩;have:=aQ j x X W aV bL bM _ (vQ b6 j bK);rw[(bA j J).trans (ax J)];exact this.move (B.still j x W aV).1 λt _=>(bt j J t _).symm
    . subst heq;rw[au] at G;cases G
    . exact b_ j J C
  . rcases bG with⟨D,O⟩|h
    . exact .inl ⟨D.trans B.len,O⟩
    . exact .inr h
  . refine⟨az.e1,λt=>?_,az.size,az.defers,az.ext⟩;have aP:bv u S (λj=>r.getD (ay j) U) s ae=bv u S (λj=>r.getD (ay j) U) s (c+1):=
     oC ae J λj D O=>ap j J J;have b7:S c=.ptr id 0:=(bA c J).trans (aF rfl);have:=az.fD t;rw[aP];simp only[bv,au,bi,ci,b7];rw[fZ,bt c (bk _) t];rw[j4] at this;simp only[aC];by_cases aO:t=d
    . rw[aF aO] at this;rw[aF aO.symm];exact this
    . rw[ax aO] at this;rw[ax (cA aO)];exact this
 intro an;induction an with
 |zero=>
  intro e r a w Γ p val H ak M bR aw aR b4 bf bc au ap a1 aQ aW a3 az;have bO:(b8 A.size).countP (λi=>!r.getD i U)=0:=J;rw[List.countP_eq_zero] at bO;exfalso;cases e with
  |false=>have D:=bO (ay c) (hh.2 (B.lt c aU));rw[au] at D;exact D rfl
  |true=>have:=bf rfl;have D:=bO (ay p) (hh.2 (B.lt p J));rw[ap p (bk _) J J] at D;exact D rfl
 |succ an b9=>
  intro e r a w Γ p val H ak M bR aw aR b4 bf bc au ap a1 aQ aW a3 az;have bX:∀i b cd,i<A.size->r.getD i b=r.getD i cd:=λi b cd aq=>by simp[aw,aq]
  have a_:∀i,i<A.size->r.getD i U=ad->(b8 A.size).countP (λj=>!(r.setIfInBounds i U).getD j U)<=an:=λi aq R=>by have:=uZ (p:=λj=>!r.getD j U) (p':=λj=>!(r.setIfInBounds i U).getD j U) (i:=i) (by simp only[R];rfl) (by simp[aw,aq]) (λj C=>by simp only[getD_set_ne U (cA C)]) A.size;rw[aF aq] at this;omega
  have a9:∀i o,A[i]? =I o->(∀e∈o.after,Region.binds .any e=U->r.getD e.on ad=U)->
   (∀k o,A[k]? =I o->(r.setIfInBounds i U).getD k U=U->∀e∈o.after,Region.binds .any e=U->(r.setIfInBounds i U).getD e.on U=U):=λi o T aH k ca aN ai e Z E=>by
   have c5:k<A.size:=(jC.1 aN).1;have X:e.on<A.size:=by have:=lC A.toList 0 a2 k ca e (by simpa using aN) Z E;omega
   have key:r.getD e.on U=U->(r.setIfInBounds i U).getD e.on U=U:=λh=>by
    by_cases ck:i=e.on
    . subst ck;simp[aw,X]
    . rw[getD_set_ne U ck];exact h
   by_cases cq:k=i
   . subst cq;rw[T] at aN;simp only[aC] at aN;subst aN;exact key ((bX _ _ _ X).trans (aH e Z E))
   . rw[getD_set_ne U (cA cq)] at ai;exact key (aR k ca aN ai e Z E)
  have cS:∃i,i<A.size/\r.getD (ay i) U=ad:=by
   cases e with
   |false=>exact⟨c,aU,au⟩
   |true=>have:=bf rfl;exact⟨p,J,ap p (bk _) J J⟩
  refine⟨λcU=>?_,λbd aq=>?_⟩
  . have cD:∀m i,i<m->i<A.size->r.getD i U=U:=by
     intro m;induction m with
     |zero=>intro i h;exact aJ h (c9 i)
     |succ m cY=>
      intro i c4 aq;cases R:r.getD i U with
      |true=>rfl
      |false=>
       have aH:i∈Region.ready .any A r:=mem_ready.2 ⟨R,A[i],by simp[aq],λe Z E=>by
        have X:e.on<i:=by have:=lC A.toList 0 a2 i A[i] e (by simp[aq]) Z E;omega
        exact(bX _ _ _ J).trans (cY e.on J J)⟩;rw[cU] at aH;cases aH
    obtain⟨i,D,O⟩:=cS;rw[cD (ay i+1) (ay i) J (B.lt i D)] at O;cases O
  . obtain⟨R,o,T,aH⟩:=mem_ready.1 aq;have cQ:bd<A.size:=(jC.1 T).1;obtain⟨i,ah,rfl⟩:=B.sT bd cQ;obtain⟨ca,F,aN,aa,b5⟩:=bC i ah;rw[T] at aN;simp only[aC] at aN;subst aN;have a7:∀j,g1 A j (ay i)->r.getD j U=U:=λj C=>
     oD a2 (L:=λj=>r.getD j U) aR (ay i+1) (ay i) J o T (λe Z E=>by
      have X:e.on<ay i:=by have:=lC A.toList 0 a2 (ay i) o e (by simpa using T) Z E;omega
      exact(bX _ _ _ J).trans (aH e Z E)) j C;have a8:∀k,k<A.size->r.getD k U=U->∀j,g1 A j k->r.getD j U=U:=λk ai b0 j C=>by
     obtain⟨q,al,rfl⟩:=B.sT k ai;obtain⟨ok,_,bp,_⟩:=bC q al;exact oD a2 (L:=λj=>r.getD j U) aR (ay q+1) (ay q) J ok bp (aR (ay q) ok bp b0) j C
    have aj:∀j,j<A.size->j≠i->(r.setIfInBounds (ay i) U).getD (ay j) U=r.getD (ay j) U:=λj C ar=>getD_set_ne U λe=>ar (B.inj j i C ah e.symm);have bq:(r.setIfInBounds (ay i) U).getD (ay i) U=U:=by simp[aw,B.lt i ah]
    have bz:∀k y,u[k]? =I y->hU u k=y.dst:=λk y ab=>by simp only[hU,ab]
    have bT:∀k t,k<A.size->hU u k=I t->∃y,u[k]? =I y/\y.dst=I t:=λk t ai ao=>by obtain⟨_,y,_,ab,_⟩:=bC k ai;exact⟨y,ab,by rw[<-bz k y ab];exact ao⟩
    have bI:e=U->∀j y,j<c->r.getD (ay j) U=ad->u[j]? =I y->y.dst≠I d/\d∉y.b3:=λZ j y bm G ab=>by
     rcases B.apart j c y _ bm aU ab aB.alloc with E|aM
     . rw[a8 _ (B.lt _ aU) (au.trans Z) _ E] at G;cases G
     . exact⟨λe=>(jJ aM).2.1 d e rfl,(jJ aM).2.2 d rfl⟩
    have a6:∀(L:Nat->Bool)(t:Nat),aE (bif e then dQ (bv u val L s p) d (.ptr id 0) else bv u val L s p) t=if e=U/\t=d then .ptr id 0 else aE (bv u val L s p) t:=λL t=>by
     cases e with
     |false=>simp
     |true=>simp[j4]
    by_cases co:i<p
    . obtain⟨c1,bQ,cO,cj⟩:=a1 i co R;rw[aa] at bQ;simp only[aC] at bQ;subst bQ;obtain⟨ct,b2⟩:=B.still i F aa cO;have b2:F.op.hX=ad:=b2.resolve_right λq=>by cases q.1
      have cM:e7 P F (bv u val (λ_=>U) s i) (bif e then M.set id (.box z) else M) (val i):=by
       cases e with
       |false=>exact cj
       |true=>exact cj.ad7 ct b2 bc
      have bB:∀t∈F.b3,aE (bv u val (λ_=>U) s i) t=aE (bif e then dQ (bv u val (λi=>r.getD (ay i) U) s p) d (.ptr id 0) else bv u val (λi=>r.getD (ay i) U) s p) t:=λt aX=>by
       rw[a6,ax (λq=>(bI q.1 i F J R aa).2 (by rw[<-q.2];exact aX))];have aP:bv u val (λk=>decide (k<i)) s p=bv u val (λk=>decide (k<i)) s i:=oC p J λj D _=>by simp;omega
       have bJ:aE (bv u val (λ_=>U) s i) t=aE (bv u val (λk=>decide (k<i)) s i) t:=f4 i rfl λj C _=>⟨by simp[C],λ_=>rfl⟩;rw[bJ,<-aP];refine f4 p rfl λk ai bZ=>⟨?_,λ_=>rfl⟩;obtain⟨y,ab,a5⟩:=bT k t J bZ;rcases Nat.lt_trichotomy k i with X|heq|bY
       . rw[be X];rcases B.apart k i y F X ah ab aa with E|aM
         . exact(a7 _ E).symm
         . exact aJ aX ((jJ aM).1 t a5)
       . subst heq;rw[R];simp
       . rw[h8];rcases B.apart i k F y bY J aa ab with E|aM
         . cases aG:r.getD (ay k) U with
           |false=>rfl
           |true=>rw[a8 _ (B.lt k J) aG _ E] at R;cases R
         . exact aJ aX ((jJ aM).2.2 t a5)
      have cL:=cM.move ct bB;refine rB T b5 az cL ?_;rintro aY aT am aA aI Y ⟨cV,rfl⟩;refine b9 e (r.setIfInBounds (ay i) U) am aA aI p val H ak M (a_ _ (B.lt i ah) R) (by simp[aw]) (a9 _ o T aH) b4 bf bc (by rw[aj c aU J];exact au) (λj C a0 bm=>?_) (λj C G=>?_) aQ aW a3 ⟨Y.e1,λt=>?_,Y.size,Y.defers,Y.ext⟩
      . rw[aj j a0 J];exact ap j C a0 bm
      . by_cases ar:j=i
        . subst ar;rw[bq] at G;cases G
        . rw[aj j J ar] at G;exact a1 j C G
      . have:=Y.fD t;rw[cV t,fZ,a6] at this;rw[a6];have aP:aE (bv u val (λj=>(r.setIfInBounds (ay i) U).getD (ay j) U) s p) t=if F.dst=I t then val i else aE (bv u val (λj=>r.getD (ay j) U) s p) t:=by
         have ch:∀(L:Nat->Bool),aE (bv u val L s p) t=aE (bv u val (λj=>if j<A.size then L j else ad) s p) t:=λL=>f4 p rfl λj C _=>⟨by rw[aF J],λ_=>rfl⟩;rw[ch,ch (λj=>r.getD (ay j) U),<-bz i F aa];refine wF (i:=i) (by rw[aF ah];exact R) (by rw[aF ah];exact bq) (λj ar=>?_) p co λj D O bP cf=>?_
         . split
           . rename_i C;exact aj j C ar
           . rfl
         . rw[aF J];obtain⟨y,ab,a5⟩:=bT j t J bP;rw[bz i F aa] at cf;rcases B.apart i j F y D J aa ab with E|aM
           . cases aG:r.getD (ay j) U with
             |false=>rfl
             |true=>rw[a8 _ (B.lt j J) aG _ E] at R;cases R
           . exact aJ a5 ((jJ aM).2.1 t cf)
        rw[aP];by_cases ao:e=U/\t=d
        . rw[aF ao];rw[ax (λq=>(bI ao.1 i F J R aa).1 (by rw[q,ao.2])),aF ao] at this;exact this
        . rw[ax ao];rw[ax ao] at this;exact this
    . by_cases bl:i=c
      . have Z:e=ad:=by rw[<-au,<-bl];exact R
        subst Z;have bN:=aB.alloc;rw[<-bl,aa] at bN;simp only[aC] at bN;subst bN;simp only[eE] at az;refine Mo T b5 az (id:=id) bc ?_;intro am aA aI Y;have bn:(r.setIfInBounds (ay i) U).getD (ay c) U=U:=by rw[<-bl];exact bq
        have br:bW w0 Γ0 n aA aI (dQ (bv u val (λj=>(r.setIfInBounds (ay i) U).getD (ay j) U) s p) d (.ptr id 0)) (M.set id (.box z)) am:=by refine⟨Y.e1,λt=>?_,Y.size,Y.defers,Y.ext⟩;have aP:aE (bv u val (λj=>(r.setIfInBounds (ay i) U).getD (ay j) U) s p) t=aE (bv u val (λj=>r.getD (ay j) U) s p) t:=f4 p rfl λj C _=>⟨aj j J J,λ_=>rfl⟩;have:=Y.fD t;rw[j4] at this⊢;rw[aP];exact this
        have bs:∀j,j<p->(r.setIfInBounds (ay i) U).getD (ay j) U=ad->∃o,u[j]? =I o/\aL[j]? =I ag/\e7 P o (bv u val (λ_=>U) s j) M (val j):=λj C G=>by rw[aj j J J] at G;exact a1 j C G
        by_cases bD:p=c
        . subst bD;exact cc an (r.setIfInBounds (ay i) U) am aA aI val H ak M (a_ _ (B.lt i ah) R) (by simp[aw]) (a9 _ o T aH) bn (λj D O=>by rw[aj j O J];exact ap j J O J) bs aQ aW a3 br
        . exact b9 U (r.setIfInBounds (ay i) U) am aA aI p val H ak M (a_ _ (B.lt i ah) R) (by simp[aw]) (a9 _ o T aH) b4 (λ_=>J) bc bn (λj D O bP=>by rw[aj j O J];exact ap j D O bP) bs aQ aW a3 br
      . have cP:i=p:=by
         rcases eT p i with X|c3
         . exfalso;obtain⟨cy,l,bo,bh,bu⟩:=a3;rcases eT p c with bD|bD
           . have:=a7 _ ((aB.before p cy l bD bo bh).2.1 i X ah bl);rw[ap p (bk _) J J] at this;cases this
           . have cT:p=c:=J;have D:=a7 _ ((aB.Df l (by rw[<-cT];exact bh)).1 i J ah);rw[au] at D;have:=bf D;omega
         . omega
        subst cP;obtain⟨cy,l,bo,bh,bu⟩:=a3;rw[aa] at bo;simp only[aC] at bo;subst bo;have cn:i<c:=J;obtain⟨cs,cC,cF⟩:=aB.before i F l cn aa bh;have bS:=λZ=>bI Z i F cn R aa;have bB:∀t∈F.b3,aE ak t=aE (bif e then dQ (bv u val (λi=>r.getD (ay i) U) s i) d (.ptr id 0) else bv u val (λi=>r.getD (ay i) U) s i) t:=λt aX=>by
         rw[a6,ax (λq=>(bS q.1).2 (by rw[<-q.2];exact aX)),aW t];refine f4 i rfl λk ai bZ=>⟨?_,λ_=>rfl⟩;obtain⟨y,ab,a5⟩:=bT k t J bZ;rcases B.apart k i y F ai ah ab aa with E|aM
         . exact(a7 _ E).symm
         . exact aJ aX ((jJ aM).1 t a5)
        have bU:hU u i=F.dst:=bz i F aa;have cE:dG i c=ad:=by
         cases E:dG i c with
         |false=>rfl
         |true=>exact aJ (l2 E) bl
        obtain⟨aZ,op,cw,g⟩:=F;simp only at cs bS bU;subst cs;simp only[ll,cE] at bu;split at bu;rotate_left
        . exact bu.elim
        rename_i f args;obtain⟨v,af,cK,cI,cJ,ai⟩:=bu;rw[ra] at ai;obtain⟨cp,b6,bj⟩:=ai;have cg:d5 ak args=d5 (bif e then dQ (bv u val (λi=>r.getD (ay i) U) s i) d (.ptr id 0) else bv u val (λi=>r.getD (ay i) U) s i) args:=sb λt aX=>bB t (by simpa[bg.b3,cH.b3] using aX);generalize cB:(bif e then dQ (bv u val (λi=>r.getD (ay i) U) s i) d (.ptr id 0) else bv u val (λi=>r.getD (ay i) U) s i)=iv at az cg bB;have cX:f8 P ad ⟨aZ,.call f args,cw,ag⟩ iv (bif e then M.set id (.box z) else M) (λaY aT=>aY=a4 iv aZ v/\aT=bif e then af.set id (.box z) else af):=by
         show bx P f (d5 iv args) _ (λc0 aT=>i4 iv aZ cw c0 (λaY=>aY=a4 iv aZ v/\aT=bif e then af.set id (.box z) else af));rw[<-cg];cases e with
         |false=>exact cI.mono λx N ⟨D,O⟩=>by subst D O;rw[ra];exact⟨cp,rfl,rfl⟩
         |true=>exact cJ.mono λx N ⟨D,O⟩=>by subst D O;rw[ra];exact⟨cp,rfl,rfl⟩
        refine rB T b5 az cX ?_;rintro aY aT am aA aI Y ⟨rfl,rfl⟩;have bb:∀m,m<=i->∀t(L:Nat->Bool),aE (bv u (λj=>if j=i then v else val j) L s m) t=aE (bv u val L s m) t:=λm b1 t L=>
         f4 m rfl λj C _=>⟨rfl,λ_=>ax J⟩;obtain⟨ae,S,bw,bH,aD,ba,bA,bE,bF,b_,bG⟩:=Aw (P:=P) (M:=af) (K:=K) (s0:=s) (z:=z) (n:=id) (c:=c) cr (by rw[B.len];exact aU) aB.E0 B.um (c -(i+1)) (i+1) (λj=>if j=i then v else val j) H (a4 ak aZ v) rfl J (by
         intro j x C W aS bV ao cb aG;by_cases ar:j=i
         . subst ar;rw[bh] at aS;simp at aS
         . have:=aQ j x J W aS bV ao cb aG;show e7 P x _ cb (if j=i then v else val j);rw[ax ar];exact this.move (B.still j x W aS).1 λt _=>(bb j J t _).symm) (λt=>by
         simp only[bv,bi,if_true,bU];rw[fZ,fZ,aW t,bb i (bk _) t]) bj;have b7:S i=v:=(bA i J).trans (aF rfl);have bt:∀m,m<=i->∀t(L:Nat->Bool),aE (bv u S L s m) t=aE (bv u val L s m) t:=λm b1 t L=>
         f4 m rfl λj C _=>⟨rfl,λ_=>(bA j J).trans (ax J)⟩;have bs:∀j,j<ae->(r.setIfInBounds (ay i) U).getD (ay j) U=ad->∃o,u[j]? =I o/\aL[j]? =I ag/\e7 P o (bv u S (λ_=>U) s j) af (S j):=λj C G=>by
         rcases Nat.lt_trichotomy j i with X|heq|bY
         . rw[aj j J J] at G;obtain⟨x,W,aV,_⟩:=a1 j X G;rcases cF j x X W with E|⟨bK,bL,bM,c2⟩
           . rw[a7 _ E] at G;cases G
           . refine⟨x,W,aV,?_⟩;have:=aQ j x X W aV bL bM af (vQ b6 j bK);rw[(bA j J).trans (ax J)];exact this.move (B.still j x W aV).1 λt _=>(bt j J t _).symm
         . subst heq;rw[bq] at G;cases G
         . exact b_ j J C
        have bn:(r.setIfInBounds (ay i) U).getD (ay c) U=e:=by rw[aj c aU J];exact au
        have cm:∀j,ae<=j->j<A.size->j≠c->(r.setIfInBounds (ay i) U).getD (ay j) U=ad:=λj C a0 bm=>by rw[aj j a0 J];exact ap j J a0 bm
        have cW:∀t,aE (bif e then dQ (bv u S (λj=>(r.setIfInBounds (ay i) U).getD (ay j) U) s ae) d (.ptr id 0) else bv u S (λj=>(r.setIfInBounds (ay i) U).getD (ay j) U) s ae) t=aE (a4 iv aZ v) t:=λt=>by
         have aP:bv u S (λj=>(r.setIfInBounds (ay i) U).getD (ay j) U) s ae=bv u S (λj=>(r.setIfInBounds (ay i) U).getD (ay j) U) s (i+1):=
          oC ae J λj D O=>by rw[aj j J J];exact ap j J J J
         have bJ:aE (bv u S (λj=>(r.setIfInBounds (ay i) U).getD (ay j) U) s i) t=aE (bv u val (λj=>r.getD (ay j) U) s i) t:=by rw[bt i (bk _) t];exact f4 i rfl λj C _=>⟨aj j J J,λ_=>rfl⟩
         have ce:aE (bv u S (λj=>(r.setIfInBounds (ay i) U).getD (ay j) U) s (i+1)) t=if aZ=I t then v else aE (bv u val (λj=>r.getD (ay j) U) s i) t:=by simp only[bv,bq,bi,bU,b7];rw[fZ,bJ]
         rw[aP,fZ,<-cB,a6];cases e with
         |false=>simp only[eE,ce];rw[ax (show¬(ad=U/\t=d) fromλq=>by cases q.1)]
         |true=>
          simp only[bi,j4,true_and,ce];by_cases aO:t=d
          . rw[aF aO,ax (λq=>(bS rfl).1 (by rw[q,aO])),aF aO]
          . rw[ax aO,ax aO]
        have br:bW w0 Γ0 n aA aI (bif e then dQ (bv u S (λj=>(r.setIfInBounds (ay i) U).getD (ay j) U) s ae) d (.ptr id 0) else bv u S (λj=>(r.setIfInBounds (ay i) U).getD (ay j) U) s ae) (bif e then af.set id (.box z) else af) am:=
         ⟨Y.e1,λt=>by rw[cW t];exact Y.fD t,Y.size,Y.defers,Y.ext⟩;by_cases W:e=U/\ae=c
        . obtain⟨rfl,rfl⟩:=W;exact cc an (r.setIfInBounds (ay i) U) am aA aI S bw bH af (a_ _ (B.lt i ah) R) (by simp[aw]) (a9 _ o T aH) bn (λj D O=>cm j J O J) bs bE bF bG br
        . exact b9 e (r.setIfInBounds (ay i) U) am aA aI ae S bw bH af (a_ _ (B.lt i ah) R) (by simp[aw]) (a9 _ o T aH) ba (λZ=>by rcases eT ae c with h|h;exact h;exact aJ ⟨Z,J⟩ W) cK bn cm bs bE bF bG br
def Ym{nn:Nat}{b:Array Oper}{aK q:List bg}{v:List (Option (List Nat))}{ay:Nat->Nat}{c d:Nat}{z:List V}{ab:List Nat}{Q:Exit->Act->World->Prop}{K:av->Mem->Prop}(R:P.follows .mixedOrders=U)(T:mC P n ab b 0 b.toList=I aK)(m:yF b aK q v ay c d z)
 (E:bW w0 Γ0 n w Γ s M a)(W:ll P z M.length c q v 0 [] s (M++[.dead]) K)(N:∀G A C H af,bW w0 Γ0 n H af G A C->K G A->Q .normal C H):(Code.region nn b U).wp P Q a w:=by
 have f:=m.Iv;have O:q.length=v.length:=by rw[f.len,f.tO]
 refine wp_region_any R ?_;have F:bW w0 Γ0 n w.drew Γ s M a:=E.nd E.e1.drew (Ext.drew w Γ);have r:=F.nd (F.e1.xh 0 (B:=.dead) ⟨rfl,rfl⟩) (Ext.si w.drew Γ _);obtain⟨x,y,L,ae,_,ba,_,X,Y,Z,aa⟩:=Aw (P:=P) (M:=M++[.dead]) (K:=K) (s0:=s) (z:=z) (n:=M.length) (c:=c) O (by rw[f.len];exact m.lt) m.E0 f.um c 0 (λ_=>.undef) [] s J (c_ _) (λi o g=>aJ g (c9 i)) (λt=>rfl) (by simpa using W);have u:∀i,i<b.size->(Array.replicate b.size ad).getD i U=ad:=λi g=>by simp[g]
 refine Yl (P:=P) (w0:=w0) (Γ0:=Γ0) (s:=s) (K:=K) (id:=M.length) T m N b.size ad _ a w.drew (Γ.fl (pP Γ.hl 0)) x y L ae (M++[.dead]) ?_ (by simp) ?_ ba (λh=>by cases h) (by simp) (u _ (f.lt c m.lt)) (λi _ g _=>u _ (f.lt i g)) (λi g _=>Z i (c_ _) g) X Y aa ?_
 . have:=List.countP_le_length (p:=λi=>!(Array.replicate b.size ad).getD i U) (l:=b8 b.size);simpa using this
 . intro k o S D;rw[u k (jC.1 S).1] at D;cases D
 . refine⟨r.e1,λt=>?_,r.size,r.defers,r.ext⟩;have e:bv q y (λi=>(Array.replicate b.size ad).getD (ay i) U) s x=bv q y (λi=>(Array.replicate b.size ad).getD (ay i) U) s 0:=
    oC x (c_ _) λj _ ah=>u _ (f.lt j (by have:=m.lt;omega));simp only[eE];rw[e];exact r.fD t
def AW{x:bg}(a:p5 x=U):x.guard=ag:=by
 unfold p5 at a;split at a
 . assumption
 . cases a
def Z6{a:List (Option (List Nat))}{j:Nat}(b:j<a.length){d:Option (List Nat)}(h:vG (a.getD j d)=U):a[j]? =I ag:=by
 rw[jc,cG b,nz] at h;rw[cG b];unfold vG at h;split at h
 . rename_i e;rw[e]
 . cases h
def Zx{Z c:Nat}{z:List V}{b:Array Oper}{aK w:List bg}{y:List (Option (List Nat))}(h:AO Z b aK=I (c,z,w,y)):∃ay d,yF b aK w y ay c d z:=by
 unfold AO at h;simp only at h;split at h
 . cases h
 . rename_i ay ai;split at h
   . cases h
   . rename_i a ah;split at h
     . rename_i d aj ab C R;obtain⟨D,E⟩:=ef h;simp only[dh] at E;obtain⟨rfl,rfl,rfl,rfl⟩:=E;simp only[bL,List.all_eq_true,hh] at D;obtain⟨⟨⟨⟨⟨⟨G,B⟩,H⟩,K⟩,L⟩,M⟩,r⟩:=D;have s:∀i x,(ay.map λi=>aK.getD i default)[i]? =I x->(ay.map λi=>aK.getD i default).getD i default=x:=λi x g=>by
        rw[jc,g];rfl
       have m:∀i k,lz (fj b.toList []) ay i k=U->g1 b (ay.getD i 0) (ay.getD k 0):=λi k N=>N;have ae:aK.length=b.size:=l2 B;have af:(lE (fj b.toList []) ay (aK.map (lD ad)) aK.length).length=aK.length:=by simp[lE]
       have F:rF ad (a+1) b aK _ _ _:=Iw (lo:=a+1) G B H K L M λp v f=>by
        have:=r p v;unfold xH at this;split at this
        . exact this
        . rename_i l u;rcases f with f|f
          . rw[show ha a p=U from me.2 f] at this;exact this
          . rw[u] at f;cases f
       have W:a<b.size:=by have:=(az.1 C).1;rw[F.len] at this;exact this
       refine⟨_,d,F,W,C,⟨ab,R⟩,λp o l v X P=>?_,λl u=>?_⟩
       . have:=r p J;unfold xH at this;rw[jc,P] at this;simp only[nz] at this;rw[show ha a p=ad from(by cases e:ha a p with|false=>rfl|true=>have:=me.1 e;omega),show ha p a=U from me.2 v] at this;simp only[bi,eE,bL,List.all_eq_true,hh] at this;obtain⟨⟨A,n⟩,q⟩:=this;rw[s p o X] at A;refine⟨AW A,λi Y S T=>?_,λj x t g=>?_⟩
         . have:=n i J;rw[show ha p i=U from me.2 Y,show dG i a=ad from(by cases e:dG i a with|false=>rfl|true=>exact aJ (l2 e) T)] at this;exact m _ _ (by simpa using this)
         . have:=q j t;rw[s j x g,ln] at this;rcases this with h|h
           . exact .inl (m _ _ h)
           . simp only[bL] at h;obtain⟨⟨⟨aD,ba⟩,bA⟩,aa⟩:=h;exact .inr ⟨tS.1 aD,AW ba,(λe=>by rw[e] at bA;cases bA),Z6 J aa⟩
       . have:=r a J;unfold xH at this;rw[jc,u] at this;simp only[nz] at this;rw[show ha a a=ad from(by cases e:ha a a with|false=>rfl|true=>have:=me.1 e;omega)] at this;simp only[eE,bL,List.all_eq_true,hh] at this;obtain⟨n,q⟩:=this;refine⟨λi O S=>?_,λj x t g Q=>?_⟩
         . have:=n i J;rw[show ha a i=U from me.2 O] at this;exact m _ _ (by simpa using this)
         . have:=q j t;rw[s j x g,jc,Q] at this;simp only[nz,vG,Bool.not_true,Bool.false_or,ln] at this;rcases this with h|h
           . exact .inl (m _ _ h)
           . simp only[bL] at h;obtain⟨⟨aD,ba⟩,bA⟩:=h;exact .inr ⟨tS.1 aD,AW ba,(λe=>by rw[e] at bA;cases bA)⟩
     . cases h
end
section
variable{P:Program}{w0 w:World}{Γ0 Γ:Env}{M:Mem}{s:av}{a:Act}{n:Nat}
def Nu(w0:World)(Γ0:Env)(n:Nat)(Q:Exit->av->Mem->Prop):Exit->Act->World->Prop:=λe a w=>∃Γ s M,bW w0 Γ0 n w Γ s M a/\Q e s M
def Ext.len{e:World}{a:Env}(h:Ext w Γ e a):Γ.cf.length<=a.cf.length:=by
 rcases eT a.cf.length Γ.cf.length with d|c
 . obtain⟨f,b,_⟩:=h.cf a.cf.length (Γ.cf[a.cf.length]) (by simp[d]);simp at b
 . exact c
theorem uy(s:av):∀a:List Nat,jB a (cC s a)=fQ s a
 |[]=>rfl
 |t::b=>by simp[jB,cC,fQ,uy s b]
theorem bW.pop(h:bW w0 Γ0 n w Γ s M a){len:Nat}(f:Γ0.cf.length<=len){c:List Nat}(d:gu len (cC s c) M=U):bW w0 Γ0 n w (Γ.hJ w len) (jB c (cC s c)) (M.take len) a:=by
 simp only[gu,bL,cZ] at d;obtain⟨⟨g,b⟩,i⟩:=d;refine⟨h.e1.pop g i,λt=>?_,h.size,h.defers,Ext.pop h.e1 h.ext f⟩;rw[uy];have:∀l:List Nat,cd len (cC s l)=U->a_ w (Γ.hJ w len) (aE (fQ s l) t) (a.tmps.getD t Go.undef):=by
  intro l;induction l with
  |nil=>intro _;exact .undef _
  |cons u l j=>
   intro b;simp only[cC,cd,bL] at b;simp only[fQ,aE];by_cases e:u=t
   . subst e;simpa using pN (h.fD u) b.1
   . have:(u==t)=ad:=by simpa using e
     simpa[this] using j b.2
 exact this c b
theorem aeu{Q:Exit->Act->World->Prop}{c cJ:Code}(l:Nat)(b:Nat->Act->World->Prop)(i:findLabel c l=I cJ)
 (first:c.wp P (Exit.jump l (λa w=>∃n,b n a w) Q) a w)
 (aaj:∀n a w,b n a w->cJ.wp P (Exit.jump l (λf g=>∃m,m<n/\b m f g) Q) a w):(Code.scope c).wp P Q a w:=by
 refine wp_scope_jumps l (λa w=>∃n,b n a w) (λa w=>leastOf (λn=>b n a w)) i first ?_
 intro a w h;refine wp_mono (aaj _ a w (leastOf_spec h).1) ?_;intro e f g al;cases e with
 |goto o=>obtain⟨rfl,m,j,d⟩:=al;exact⟨rfl,⟨m,d⟩,Nat.lt_of_le_of_lt ((leastOf_spec ⟨m,d⟩).2 m d) j⟩
 |normal=>exact al
 |exit id=>exact al
 |ret=>exact al
 |panic k=>exact al
 |outgrown=>exact al
theorem aeq{h:iO}:∀(k:Nat)(c:Code)(ac:bu),mA P n h k c=I ac->∀(Q:Exit->av->Mem->Prop)(s:av)(M:Mem)(a:Act)(w:World)(Γ:Env),bW w0 Γ0 n w Γ s M a->ck P ac Q s M->c.wp P (Nu w0 Γ0 n Q) a w:=by
 intro k;induction k with
 |zero=>intro c ac j;simp[mA] at j
 |succ k C=>
  intro c ac j Q s M a w Γ o p;have ao:Γ0.cf.length<=M.length:=by rw[<-o.e1.len];exact o.ext.len
  cases c<;>simp only[mA,reduceCtorEq] at j
  case skip=>simp only[aC] at j;subst j;exact wp_skip ⟨Γ,s,M,o,p⟩
  case region id S N=>
   split at j
   . rename_i aa O;split at j
     . rename_i F;split at j
       . rename_i W;split at j
         . rename_i aD R;have ar:xA S aa=I aD:=by
            cases e:(k0 (look h.qZ id) 9999||k0 (look h.qZ id) 9998) with
            |true=>rw[e] at R;cases R
            |false=>rw[e] at R;exact R
           simp only[aC] at j;subst j;rw[show N=U from F];exact Zy (w0:=w0) (Γ0:=Γ0) (n:=n) (K:=λg b=>Q .normal (fQ g (look h.live id)) b) W O ar o p (λg b u B i f D=>⟨i,_,b,f.norm _,D⟩)
         . split at j
           . simp only[cL] at j;obtain⟨⟨c,z,aE,aH⟩,q,rfl⟩:=j;rw[show N=U from F];obtain⟨ay,d,ai⟩:=Zx q;exact Ym (w0:=w0) (Γ0:=Γ0) (n:=n) (K:=λg b=>Q .normal (fQ g (look h.live id)) b) W O ai o p (λg b u B i f D=>⟨i,_,b,f.norm _,D⟩)
           simp only[cL] at j;obtain⟨x,q,rfl⟩:=j;rw[show N=U from F];exact Uz (w0:=w0) (Γ0:=Γ0) (n:=n) (K:=λg b=>Q .normal (fQ g (look h.live id)) b) W O q o p (λg b u B i f D=>⟨i,_,b,f.norm _,D⟩)
       . cases j
     . rename_i F;simp only[aC] at j;subst j;have am:N=ad:=by simpa using F
       subst am;refine wp_region ?_;have e:b8 S.size=List.range' 0 S.toList.length:=by simp[List.range_eq_range']
       rw[e];exact MB (w0:=w0) (Γ0:=Γ0) (n:=n) (mu:=look h.qZ id) (K:=λg b=>Q .normal (fQ g (look h.live id)) b) (λg b u B i f D=>⟨i,_,b,f.norm _,D⟩) S.toList 0 aa s M a w Γ (by simp) O o p
   . cases j
  case seq x y=>
   obtain⟨v,E,q,H,rfl⟩:=gm j;refine wp_seq (wp_mono (C x v q (pf (ck P E) Q) s M a w Γ o p) ?_);rintro e u B ⟨i,g,b,f,al⟩;cases e with
   |normal=>exact C y E H Q g b u B i f al
   |exit id=>exact⟨i,g,b,f,al⟩
   |goto l=>exact⟨i,g,b,f,al⟩
   |ret=>exact⟨i,g,b,f,al⟩
   |panic L=>exact⟨i,g,b,f,al⟩
   |outgrown=>exact⟨i,g,b,f,al⟩
  case cond c x y=>
   split at j
   . rename_i aG v E aj q H;simp only[aC] at j;subst j;simp only[ck] at p;have ak:=du o.fD aj;split at p
     . rename_i t az;have:=nl ak az;refine wp_cond this ?_;cases t with
       |true=>exact C x v q Q s M a w Γ o p
       |false=>exact C y E H Q s M a w Γ o p
     . exact p.elim
   . cases j
  case block id x=>
   simp only[cL] at j;obtain⟨v,q,rfl⟩:=j;refine wp_block (wp_mono (C x v q (m0 id Q) s M a w Γ o p) ?_);rintro e u B ⟨i,g,b,f,al⟩;cases e with
   |exit Z=>
    simp only[Exit.inBlock,m0] at al⊢;by_cases aS:Z=id
    . subst aS;simp only[beq_self_eq_true,bi] at al;rw[aF rfl];exact⟨i,g,b,f,al⟩
    . have:(Z==id)=ad:=by simpa using aS
      simp only[this,eE] at al;rw[ax aS];exact⟨i,g,b,f,al⟩
   |normal=>exact⟨i,g,b,f,al⟩
   |goto l=>exact⟨i,g,b,f,al⟩
   |ret=>exact⟨i,g,b,f,al⟩
   |panic L=>exact⟨i,g,b,f,al⟩
   |outgrown=>exact⟨i,g,b,f,al⟩
  case loop x=>
   simp only[cL] at j;obtain⟨v,q,rfl⟩:=j;obtain⟨bt,aB,ae,aw⟩:=p;refine wp_loop_ghost (λm a w=>∃Γ A r,bt m A r/\bW w0 Γ0 n w Γ (jB (look h.loops (mm x)) A) r a) aB ⟨Γ,_,M,ae,by rw[uy];exact o.norm _⟩ ?_;rintro m a w ⟨Y,A,r,af,X⟩;refine wp_mono (C x v q _ _ r a w Y X (aw m A r af)) ?_;rintro e u B ⟨i,g,b,f,al⟩;cases e with
   |normal=>
    rcases al with⟨J,G,T⟩|⟨aq,J,G,T⟩
    . exact⟨J,G,i,_,b,T,by rw[uy];exact f.norm _⟩
    . exact⟨J,G,_,_,_,T,f.pop ao aq⟩
   |exit id=>exact⟨i,g,b,f,al⟩
   |goto l=>exact⟨i,g,b,f,al⟩
   |ret=>exact⟨i,g,b,f,al⟩
   |panic L=>exact⟨i,g,b,f,al⟩
   |outgrown=>exact⟨i,g,b,f,al⟩
  case scope x=>
   split at j
   . rename_i l aI;split at j
     . rename_i cJ au;obtain⟨v,E,q,H,rfl⟩:=gm j;obtain⟨ab,an,ap⟩:=p;refine aeu l (λm a w=>∃Γ A r,ab m A r/\bW w0 Γ0 n w Γ (jB (look h.loops (mm cJ)) A) r a) au (wp_mono (C x v q _ s M a w Γ o an) ?_) ?_
       . rintro e u B ⟨i,g,b,f,al⟩;cases e with
         |goto aA=>obtain⟨rfl,m,V⟩:=al;exact⟨rfl,m,i,_,b,V,by rw[uy];exact f.norm _⟩
         |normal=>exact⟨i,g,b,f,al⟩
         |exit id=>exact⟨i,g,b,f,al⟩
         |ret=>exact⟨i,g,b,f,al⟩
         |panic L=>exact⟨i,g,b,f,al⟩
         |outgrown=>exact⟨i,g,b,f,al⟩
       . rintro m a w ⟨Y,A,r,V,X⟩;refine wp_mono (C cJ E H _ _ r a w Y X (ap m A r V)) ?_;rintro e u B ⟨i,g,b,f,al⟩;cases e with
         |goto aA=>obtain⟨rfl,J,G,ah⟩:=al;exact⟨rfl,J,G,i,_,b,ah,by rw[uy];exact f.norm _⟩
         |normal=>exact⟨i,g,b,f,al⟩
         |exit id=>exact⟨i,g,b,f,al⟩
         |ret=>exact⟨i,g,b,f,al⟩
         |panic L=>exact⟨i,g,b,f,al⟩
         |outgrown=>exact⟨i,g,b,f,al⟩
     . cases j
   . cases j
  case exit id=>simp only[aC] at j;subst j;exact wp_exit ⟨Γ,s,M,o,p⟩
  case label l=>simp only[aC] at j;subst j;exact wp_label ⟨Γ,s,M,o,p⟩
  case goto l=>simp only[aC] at j;subst j;exact wp_goto ⟨Γ,s,M,o,p⟩
  case ret=>simp only[aC] at j;subst j;exact wp_ret ⟨Γ,s,M,o,p⟩
def fm(a:Array Value)(r:ResultVar):Sem Value:=
 match r with
 |.tmp t=>pure (a.getD t Go.undef)
 |.cell c t=>asAddr (a.getD c Go.undef)>>=loadVar t
theorem abB{r:ResultVar}{l:jF}{G:List ResultVar}{A:List jF}(h:lR P n (r::G)=I (l::A))(k:bW w0 Γ0 n w Γ s M a){v:V}(e:vT s M l=I v):
 ∃d,a_ w Γ v d/\(fm a.tmps r).run P w=.ok d w:=by
 cases r with
 |tmp t=>simp only[lR,cL,List.cons.injEq] at h;obtain⟨_,_,rfl,rfl⟩:=h;simp only[vT,aC] at e;subst e;exact⟨_,k.fD t,rfl⟩
 |cell c t=>
  simp only[lR] at h;split at h
  . rename_i m z aK C o J;simp only[aC,List.cons.injEq] at h;obtain⟨rfl,rfl⟩:=h;simp only[vT] at e;obtain⟨b,off,F,cells,p,D,B⟩:=Jd k.e1 (k.fD c) e;have q:=Jc D B;cases z with
    |true=>
     obtain⟨H,d,rfl,u,f,i⟩:=q;refine⟨.agg ((b8 m).map d).toArray,.agg H _ (by simp[u]) (λj x y=>?_),?_⟩
     . have g:j<m:=by rw[<-u];exact(az.1 y).1
       have:=i j x y;simpa[gL,g] using this
     . have E:=run_loadCells (P:=P) w ⟨b,off+F,ag⟩ m d (λj g=>by rw[Addr.jI];exact f j g);simp[fm,p,asAddr,loadVar,qP o,fP C,E]
    |false=>obtain⟨d,f,i⟩:=q;exact⟨d,i,by simp[fm,p,asAddr,loadVar,qP o,f]⟩
  . cases h
theorem KI(q:bW w0 Γ0 n w Γ s M a):∀(f:List ResultVar)(d:List jF)(m:List V),lR P n f=I d->sH s M d=I m->
 ∃i:List Value,dz w Γ m i.toArray/\(f.mapM (fm a.tmps)).run P w=.ok i w
 |[],d,m,h,b=>by simp only[lR,aC] at h;subst h;simp only[sH,aC] at b;subst b;exact⟨[],⟨rfl,λj x e=>by simp at e⟩,by simp⟩
 |r::f,d,m,h,b=>by
  have z:∃o g,d=o::g/\lR P n f=I g:=by
   cases r with
   |tmp t=>simp only[lR,cL] at h;obtain⟨aK,k,rfl⟩:=h;exact⟨_,_,rfl,k⟩
   |cell c t=>
    simp only[lR] at h;split at h
    . rename_i k p l;simp only[aC] at h;exact⟨_,_,h.symm,l⟩
    . cases h
  obtain⟨o,g,rfl,A⟩:=z;simp only[sH] at b;split at b
  . rename_i v D B C;simp only[aC] at b;subst b;obtain⟨u,k,p⟩:=abB h q B;obtain⟨i,l,y⟩:=KI q f g D A C;refine⟨u::i,⟨by simp[l.1.symm],λj x e=>?_⟩,?_⟩
    . cases j with
      |zero=>simp at e;subst e;simpa using k
      |succ j=>have:=l.2 j x (by simpa using e);simpa[gL] using this
    . rw[List.mapM_cons];simp only[Sem.run_bind,p,Result.andThen_ok,y,Sem.run_pure]
  . cases b
def KK(t:bW w0 Γ0 n w Γ s M a){fn:Func}{i:List jF}(h:lR P n fn.results.toList=I i){v:V}(d:lQ s M i=I v):∃l,a_ w Γ v l/\(results fn a.tmps).run P w=.ok l w:=by
 have key:∃b,sH s M i=I b/\((∃x,b=[x]/\v=x)∨((∀x,b≠[x])/\v=.tuple b)):=by
  unfold lQ at d;split at d
  . rename_i x k;simp only[aC] at d;exact⟨_,k,.inl ⟨x,rfl,d.symm⟩⟩
  . rename_i b j k;simp only[aC] at d;exact⟨b,k,.inr ⟨λx e=>j x e,d.symm⟩⟩
  . cases d
 obtain⟨b,u,q⟩:=key;obtain⟨f,g,p⟩:=KI t _ _ _ h u;have o:(fn.results.mapM (fm a.tmps)).run P w=.ok f.toArray w:=by rw[Array.mapM_eq_mapM_toList];simp[p]
 have m:f.length=b.length:=by simpa using g.1
 have r:results fn a.tmps=(do
  let b<-fn.results.mapM (fm a.tmps)
  pure (if h:b.size=1 then b[0] else .tuple b)):=by
  unfold results
  congr 2
 rw[r];rcases q with⟨x,rfl,rfl⟩|⟨j,rfl⟩
 . obtain⟨c,rfl⟩:=List.length_eq_one_iff.1 (show f.length=1 from m);refine⟨c,by simpa using g.2 0 _ rfl,?_⟩;rw[Sem.run_bind,o];simp
 . refine⟨.tuple f.toArray,.tuple _ _ g.1 g.2,?_⟩;rw[Sem.run_bind,o];have:¬(f.toArray.size=1):=by
    intro ae;simp only[List.size_toArray] at ae;rw[m] at ae;obtain⟨x,rfl⟩:=List.length_eq_one_iff.1 ae;exact j x rfl
   simp only[Result.andThen_ok,Sem.run_pure,this,dite_false]
theorem Lb:∀(args:List V)(i t:Nat),aE (nq args i) t=if i<=t then(args[t -i]?).getD .undef else .undef
 |[],i,t=>by simp[nq,aE]
 |x::b,i,t=>by
  simp only[nq,aE];by_cases h:i=t
  . subst h;simp
  . have:(i==t)=ad:=by simpa using h
    rw[this,eE,Lb b (i+1) t];by_cases a:i<=t
    . rw[aF J,aF a,show t -i=(t -(i+1))+1 by omega];simp
    . rw[ax J,ax a]
def Xx{f:Nat}{h:iO}{fn:aU}(a:mB P h f=I fn):qJ P f=U/\∃F c,P.funcs[f]? =I F/\F.body=I c/\mA P F.ntmps h 200 c=I fn.body/\lR P F.ntmps F.results.toList=I fn.results:=by
 unfold mB at a;split at a
 . rename_i F e;split at a
   . rename_i c g;cases d:(F.name != "runtime.NumGoroutine") with
     |false=>simp[d] at a
     |true=>
      simp only[d,bi] at a;split at a
      . rename_i b k i j;simp only[aC] at a;subst a;exact⟨by simp[qJ,e,g,d],F,c,e,g,i,j⟩
      . cases a
   . cases a
 . cases a
def Tr{F:Func}{args:List V}{a:Array Value}(d:Good w Γ M)(b:dz w Γ args a)(f:args.length<=F.ntmps):bW w Γ F.ntmps w Γ (nq args 0) M {tmps:=a++Array.replicate (F.ntmps -a.size) Go.undef,defers:=[]}:=by
 refine⟨d,λt=>?_,by simp[b.1];omega,rfl,Ext.refl _ _⟩;rw[Lb,aF (c_ _),Nat.sub_zero];by_cases c:t<args.length
 . rw[cG c];have:=b.2 t _ (cG c);have e:t<a.size:=by rw[b.1];exact c
   simpa[gL,Array.getElem?_append,e] using this
 . rw[jd J];exact .undef _
theorem CM{f:Nat}{h:iO}{fn:aU}(b:mB P h f=I fn){args:List V}(K:args.length<=fn.ntmps){R:V->Mem->Prop}{n:Option V->Mem->Prop}(Q:ck P fn.body (iT fn.results n) (nq args 0) M)
 (H:∀(F:Func)(w0:World)(Γ0:Env)(s:av)(g:Mem)(a:Act)(w:World)(Γ:Env),Γ0.cf.length=M.length->lR P F.ntmps F.results.toList=I fn.results->bW w0 Γ0 F.ntmps w Γ s g a->n (lQ s g fn.results) g->
   ∃v d k i,(results F a.tmps).run P w=.ok d w/\R v i/\a_ w k v d/\Good w k i/\Ext w0 Γ0 w k):bx P f args M R:=by
 obtain⟨J,F,c,p,q,G,O⟩:=Xx b;have L:fn.ntmps=F.ntmps:=by
  unfold mB at b;simp only[p,q] at b;cases t:(F.name != "runtime.NumGoroutine") with
  |true=>
   simp only[t,bi] at b;split at b
   . simp only[aC] at b;rw[<-b]
   . cases b
  |false=>simp[t] at b
 refine⟨J,λw Γ S r E=>calls_of_wp p q (wp_mono (aeq 200 c fn.body G _ _ M _ w Γ (Tr r E (by rw[<-L];exact K)) Q) ?_)⟩;rintro e o j ⟨k,x,g,u,al⟩;have fin:n (lQ x g fn.results) g->o.defers=[]/\∃v,(results F o.tmps).run P j=.ok v j/\∃y d m i,Ending.returned v=.returned d/\R y i/\a_ j m y d/\Good j m i/\Ext w Γ j m:=λN=>by obtain⟨v,d,m,i,z,A,B,C,D⟩:=H F w Γ x g o j k r.len O u N;exact⟨u.defers,d,z,v,d,m,i,rfl,A,B,C,D⟩
 cases e with
 |normal=>exact fin al
 |ret=>exact fin al
 |exit id=>exact al.elim
 |goto l=>exact al.elim
 |panic T=>exact al.elim
 |outgrown=>exact al.elim
def CL{f:Nat}{h:iO}{fn:aU}(j:mB P h f=I fn){args:List V}(k:args.length<=fn.ntmps){R:V->Mem->Prop}(n:dN P fn args M R):bx P f args M R:=by
 refine CM j k n ?_;intro F w0 Γ0 s d a w Γ o l c b;unfold k1 at b;split at b
 . rename_i v m;obtain⟨e,g,i⟩:=KK c l m;exact⟨v,e,Γ,d,i,b,g,c.e1,c.ext⟩
 . exact b.elim
def CN{f:Nat}{h:iO}{fn:aU}(k:mB P h f=I fn){args:List V}(m:args.length<=fn.ntmps){R:V->Mem->Prop}(p:Cd P fn args M R):bx P f args M R:=by
 refine CM k m p ?_;intro F w0 Γ0 s r a w Γ t n c b;unfold sF at b;split at b
 . rename_i v o;unfold hC at b;split at b
   . rename_i q l;obtain⟨d,j⟩:=b;simp only[bL,cZ] at d;obtain⟨e,g,i⟩:=KK c n o;exact⟨q,e,Γ.hJ w M.length,_,i,j,Iy c.e1 20 g l,c.e1.pop d.1.2 d.2,Ext.pop c.e1 c.ext J⟩
   . exact b.elim
 . exact b.elim
end
end Go.ao
namespace Go.ao
open Go.RowKit (Below)
open Go.ChangeShapes Go.WideShapes
inductive fi where
 |bool
 |int (k:IntKind)
 |str
 |slice (row:List fi)
 deriving Inhabited
inductive j8:fi->V->Prop
 |bool (b:Bool):j8 .bool (.bool b)
 |int (k:IntKind) (n:Int) (h:(Lit.int k n).wf=U):j8 (.int k) (.int k n)
 |str (s:List UInt8) (h:s.length<=maxLen):j8 .str (.str s)
 |slice (row:List fi) (rows:List (List V)) (c:cg) (cV:c=.nil/\rows=[]∨c=.any) (qM:rows.length<=maxLen)
   (aeR:∀(i:Nat)(r:List V),rows[i]? =I r->r.length=row.length)
   (h:∀(i:Nat)(r:List V)(j:Nat)(x:V)(zF:fi),rows[i]? =I r->r[j]? =I x->row[j]? =I zF->j8 zF x):
   j8 (.slice row) (.slice rows c)
theorem j8.pure{a:fi}{v:V}(h:j8 a v):v.ia=U:=by cases h<;>rfl
def km(row:List fi)(b:List V):Prop:=b.length=row.length/\∀(j:Nat)(x:V)(a:fi),b[j]? =I x->row[j]? =I a->j8 a x
def ve(P:Program)(vl:TypeId->Option (List fi)):List Field->Nat->Option (List fi)
 |[],_=>I []
 |f::a,off=>
  match vl f.type with
  |some r=>
   bif f.offset==off&&r.length==P.cellsOf f.type then
    match ve P vl a (off+r.length) with
    |some q=>I (r++q)
    |none=>ag
   else ag
  |none=>ag
def dx(P:Program):Nat->TypeId->Option (List fi)
 |0,_=>ag
 |n+1,t=>
  match P.underlying t with
  |some .bool=>I [.bool]
  |some (.int k)=>I [.int k]
  |some .string=>I [.str]
  |some (.slice e)=>
   match dx P n e with
   |some r=>bif r.length==P.cellsOf e&&!r.isEmpty then I [.slice r] else ag
   |none=>ag
  |some (.struct a)=>
   match ve P (dx P n) a.toList 0 with
   |some r=>bif r.length==P.cellsOf t then I r else ag
   |none=>ag
  |_=>ag
def Cl(w:World)(Γ:Env)(a:fi)(c:Value):Prop:=∃v,j8 a v/\a_ w Γ v c
def oy(w:World)(Γ:Env)(d:List fi)(a:List Value):Prop:=
 a.length=d.length/\∀(j:Nat)(b:fi)(c:Value),d[j]? =I b->a[j]? =I c->Cl w Γ b c
theorem oy.pick{w:World}{Γ:Env}{e:List fi}{a:List Value}(h:oy w Γ e a):∃f,km e f/\dz w Γ f a.toArray:=by
 obtain⟨i,h⟩:=h;induction e generalizing a with
 |nil=>have:a=[]:=lY.1 i;subst this;exact⟨[],⟨rfl,λj x d h=>by simp at h⟩,rfl,λj x h=>by simp at h⟩
 |cons d e r=>
  cases a with
  |nil=>simp at i
  |cons c a=>
   obtain⟨f,⟨s,l⟩,t,m⟩:=r (a:=a) (by simpa using i) (λj d c n o=>h (j+1) d c (by simpa using n) (by simpa using o));obtain⟨v,q,p⟩:=h 0 d c rfl rfl;refine⟨v::f,⟨by simp[s],λj x k b g=>?_⟩,by simpa using t,λj x b=>?_⟩
   . cases j with
     |zero=>simp at b g;subst b;subst g;exact q
     |succ j=>exact l j x k (by simpa using b) (by simpa using g)
   . cases j with
     |zero=>simp at b;subst b;simpa[gL] using p
     |succ j=>have:=m j x (by simpa using b);simpa[gL] using this
def oy.append{w:World}{Γ:Env}{c1 c2:List fi}{h bP:List Value}(d:oy w Γ c1 h)(f:oy w Γ c2 bP):oy w Γ (c1++c2) (h++bP):=by
 refine⟨by simp[d.1,f.1],λj e c a b=>?_⟩;by_cases g:j<c1.length
 . rw[et g] at a;rw[et (by rw[d.1];exact g)] at b;exact d.2 j e c a b
 . rw[fH J] at a;rw[fH (by rw[d.1];omega),d.1] at b;exact f.2 _ e c a b
section
variable{H:Type}{enc:TypeId×Value->H}{P:Program}{w:World}{Γ:Env}
theorem E1{vl:TypeId->Option (List fi)}{cs:List Value}
 :∀(l:List Field)(off:Nat)(k:List fi),ve P vl l off=I k->off+k.length<=cs.length->
  (∀(i:Nat)(f:Field)(r:List fi),l[i]? =I f->vl f.type=I r->r.length=P.cellsOf f.type->(cs.drop f.offset).take (P.cellsOf f.type)=(cs.drop f.offset).take r.length->oy w Γ r ((cs.drop f.offset).take r.length))->
  oy w Γ k ((cs.drop off).take k.length)
 |[],off,k,h,_,_=>by simp only[ve,aC] at h;subst h;exact⟨by simp,λj v c h=>by simp at h⟩
 |f::l,off,k,h,s,m=>by
  unfold ve at h;split at h
  . rename_i r t;cases g:(f.offset==off&&r.length==P.cellsOf f.type) with
    |false=>simp[g] at h
    |true=>
     simp only[g,bi] at h;simp only[bL,beq_iff_eq] at g;obtain⟨rfl,g⟩:=g;split at h
     . rename_i q al;simp only[aC] at h;subst h;have o:=m 0 f r rfl t g (by rw[g]);have p:=E1 l (f.offset+r.length) q al (by simp at s;omega) (λi n u a b c d=>m (i+1) n u (by simpa using a) b c d);have:=o.append p;have e:(cs.drop f.offset).take r.length++(cs.drop (f.offset+r.length)).take q.length=(cs.drop f.offset).take (r++q).length:=by
        rw[b0,List.take_add,List.drop_drop]
       rw[e] at this;exact this
     . cases h
  . cases h
theorem yf(X:∀b o v,w.cell? ⟨b,o,ag⟩=I v->Γ.S b o):∀(n:Nat)(t:TypeId)(O:List fi)(W:Nat)(G:List Value)(x:DataW H×List MemPlace),
 dx P n t=I O->DataW.trod enc P w 0 (λ_=>U) U W t G=I x->oy w Γ O G
 |0,t,O,W,G,x,h,_=>by simp[dx] at h
 |n+1,t,O,W,G,x,h,z=>by
  have one:∀{A:fi}{c:Value},Cl w Γ A c->oy w Γ [A] [c]:=λK=>⟨rfl,λj aB aA a b=>by
   cases j with
   |zero=>simp at a b;subst a;subst b;exact K
   |succ j=>simp at a⟩;unfold dx at h;split at h
  . rename_i B;simp only[aC] at h;subst h;obtain⟨b,rfl,_⟩:=DataW.trod_bool B z;exact one ⟨_,.bool b,.bool b⟩
  . rename_i k B;simp only[aC] at h;subst h;obtain⟨q,rfl,_,aw⟩:=DataW.trod_int B z;exact one ⟨_,.int k q aw,.int k q⟩
  . rename_i B;simp only[aC] at h;subst h;obtain⟨s,rfl,_,R⟩:=DataW.trod_string B z;refine one ⟨.str s.data.toList,.str _ (by rw[Array.length_toList];exact R),?_⟩;have:=a_.str (w:=w) (Γ:=Γ) s.data.toList;rw[Array.toArray_toList] at this;exact this
  . rename_i e B;split at h
    . rename_i row ar;cases E:(row.length==P.cellsOf e&&!row.isEmpty) with
      |false=>simp[E] at h
      |true=>
       simp only[E,bi,aC] at h;subst h;simp only[bL,beq_iff_eq,hM,List.isEmpty_eq_false_iff] at E;obtain⟨ax,ap⟩:=E;have aG:0<row.length:=List.length_pos_iff.2 ap;rcases DataW.trod_slice B z with⟨rfl,_⟩|⟨a,len,cap,To,cJ,m,_,rfl,_,_,aD,aE,ah,an,au,_⟩
       . exact one ⟨.slice [] .nil,.slice row [] .nil (.inl ⟨rfl,rfl⟩) (c_ _) (λi r h=>by simp at h) (λi r j x A h=>by simp at h),.hf _ (.inl rfl)⟩
       . by_cases al:cap=0
         . subst al;have N:len=0:=J;subst N;exact one ⟨.slice [] .any,.slice row [] .any (.inr rfl) (c_ _) (λi r h=>by simp at h) (λi r j x A h=>by simp at h),.jv _ (by simp) _⟩
         . have aa:∀i,i<len->∃u y,w.cells? 0 (a.add (i*P.cellsOf e)) (P.cellsOf e)=I u/\DataW.trod enc P w 0 (λ_=>U) U m e u=I y:=λi l=>by
            have:=an i l;rw[cG J] at this;obtain⟨u,d,D⟩:=Option.bind_eq_some_iff.1 this;exact⟨u,_,d,D⟩
           have aj:a.spot=ag:=by
            have:∃u,w.cells? 0 a (P.cellsOf e)=I u:=by
             have Z:a.add (0*P.cellsOf e)=a:=by rw[Nat.zero_mul,Addr.add,aF rfl]
             by_cases N:0<len
             . obtain⟨u,_,d,_⟩:=aa 0 N;exact⟨u,by rw[<-d,Z]⟩
             . obtain⟨d,D⟩:=au rfl;have:=D 0 J;rw[cG J] at this;obtain⟨u,Q,_⟩:=Option.bind_eq_some_iff.1 this;have N:len=0:=J;subst N;exact⟨u,by rw[<-Q,g_,Z]⟩
            obtain⟨u,d⟩:=this;obtain⟨_,R,K⟩:=World.cells?_some d;have:=K 0 J;rw[cG J,Addr.add,aF rfl] at this;exact World.cell?_spot this
           obtain⟨b,off,aI⟩:=a;simp only at aj;subst aj;have am:∀i j,∃v,i<len->j<row.length->∃c,w.cell? ⟨b,off+(i*row.length+j),ag⟩=I c/\(∀A,row[j]? =I A->j8 A v)/\a_ w Γ v c:=λi j=>by
            by_cases l:i<len
            . by_cases p:j<row.length
              . obtain⟨u,y,d,D⟩:=aa i l;obtain⟨_,R,K⟩:=World.cells?_some d;have g:=yf X n e row m u y ar D;have af:j<u.length:=by rw[g.1];exact p
                obtain⟨v,av,aq⟩:=g.2 j row[j] u[j] (cG p) (cG af);refine⟨v,λ_ _=>⟨u[j],?_,λA L=>?_,aq⟩⟩
                . have:=K j J;rw[cG af] at this;rw[<-this,<-ax,Addr.jI,Addr.jI,jg]
                . rw[cG p] at L;simp only[aC] at L;rw[<-L];exact av
              . exact⟨.undef,λ_ h=>aJ h p⟩
            . exact⟨.undef,λh=>aJ h l⟩
           obtain⟨f,F⟩:=Classical.axiomOfChoice (λ(ak:Nat×Nat)=>am ak.1 ak.2);let C:=(b8 len).map λi=>(b8 row.length).map λj=>f (i,j)
           have ai:C.length=len:=by simp[C]
           have M:∀(i:Nat)(r:List V),C[i]? =I r->i<len/\r=(b8 row.length).map λj=>f (i,j):=λi r g=>by
            have l:i<len:=by rw[<-ai];exact(az.1 g).1
            simp only[C,dK,List.getElem?_range l,jE,aC] at g;exact⟨l,g.symm⟩
           have Y:∀(i:Nat)(r:List V)(j:Nat)(x:V),C[i]? =I r->r[j]? =I x->i<len/\j<row.length/\x=f (i,j):=λi r j x g z=>by
            obtain⟨l,rfl⟩:=M i r g;have p:j<row.length:=by simpa using(az.1 z).1
            simp only[dK,List.getElem?_range p,jE,aC] at z;exact⟨l,p,z.symm⟩
           have ae:∀(i:Nat)(r:List V)(j:Nat)(x:V)(A:fi),C[i]? =I r->r[j]? =I x->row[j]? =I A->j8 A x:=λi r j x A g z L=>by obtain⟨l,p,rfl⟩:=Y i r j x g z;obtain⟨c,d,D,Q⟩:=F (i,j) l p;exact D A L
           refine one ⟨.slice C .any,.slice row C .any (.inr rfl) J (λi r g=>?_) ae,?_⟩
           . obtain⟨_,rfl⟩:=M i r g;simp
           . have:=a_.slice (w:=w) (Γ:=Γ) C .any b off row.length cap (λi j=>(w.cell? ⟨b,off+(i*row.length+j),ag⟩).getD Go.undef) (by simp) (by simp) J
              (λi r g=>by obtain⟨_,rfl⟩:=M i r g;simp)
              (λi j l p=>by obtain⟨c,d,_⟩:=F (i,j) J p;exact X _ _ _ d)
              (λi j l p=>by obtain⟨c,d,_⟩:=F (i,j) J p;simp only at d;rw[d];rfl)
              (λi r j x g z=>by obtain⟨l,p,rfl⟩:=Y i r j x g z;exact(ae i r j _ row[j] g z (cG p)).pure)
              (λi r j x g z=>by obtain⟨l,p,rfl⟩:=Y i r j x g z;obtain⟨c,d,_,Q⟩:=F (i,j) l p;simp only at d;rw[d];exact Q);rw[ai] at this;exact this
    . cases h
  . rename_i T B;split at h
    . rename_i r g;obtain⟨E,rfl⟩:=ef h;have E:r.length=P.cellsOf t:=by simpa using E
      obtain⟨aK,m,_,_,R,aH,M⟩:=DataW.trod_struct B z;have:=E1 (w:=w) (Γ:=Γ) (cs:=G) T.toList 0 r g J (λi f ay F ao ah _=>by
       have ab:T[i]? =I f:=by simpa using F
       have l:i<T.size:=(jC.1 ab).1;have d:=M i f ab;rw[cG J] at d;rw[<-ah] at d;exact yf X n f.type ay m _ _ ao d);rw[hN,eS J] at this;exact this
    . cases h
  . cases h
end
inductive ou where
 |cell (zF:fi)
 |agg (row:List fi)
def yD:ou->V->Prop
 |.cell b,v=>j8 b v
 |.agg row,v=>∃a,v=.agg a/\km row a
def qq:List ou->List V->Prop
 |[],a=>a=[]
 |p::c,a=>∃x b,a=x::b/\yD p x/\qq c b
def A6(P:Program)(t:TypeId):Option ou:=
 match P.underlying t with
 |some (.struct _)=>(dx P 12 t).map .agg
 |_=>
  match dx P 12 t with
  |some [a]=>I (.cell a)
  |_=>ag
def uc(P:Program):List TypeId->Option (List ou)
 |[]=>I []
 |t::b=>
  match A6 P t,uc P b with
  |some p,I a=>I (p::a)
  |_,_=>ag
section
variable{H:Type}{enc:TypeId×Value->H}{P:Program}{w:World}{Γ:Env}
theorem Ut{n:Nat}{t:TypeId}{j:fi}(h:dx P n t=I [j])(l:∀g,P.underlying t≠I (.struct g)){r:Reach}{i:Nat}{v:Value}(f:Value.okWide P w r i t v):v.cells=#[v]:=by
 cases n with
 |zero=>simp[dx] at h
 |succ n=>
  unfold dx at h;split at h
  . rename_i d;obtain⟨b,rfl⟩:=okWide_bool d f;rfl
  . rename_i k d;obtain⟨b,rfl⟩:=okWide_int d f;rfl
  . rename_i d;obtain⟨b,rfl⟩:=okWide_string d f;rfl
  . rename_i e d;obtain⟨a,b,c,rfl⟩:=okWide_slice d f;rfl
  . rename_i g d;exact aJ d (l g)
  . cases h
def Qm(i:∀b o v,w.cell? ⟨b,o,ag⟩=I v->Γ.S b o){r:Reach}{m:Nat}{t:TypeId}{v:Value}{d:DataW H}{p:List MemPlace}{l:ou}(a:A6 P t=I l)
 (k:Value.okWide P w r m t v)(h:DataW.Trod enc P w 0 (λ_=>U) U t v d p):∃x,yD l x/\a_ w Γ x v:=by
 obtain⟨C,f⟩:=h;unfold A6 at a;split at a
 . rename_i B A;obtain⟨n,rfl,D⟩:=okWide_struct A k;obtain⟨row,z,rfl⟩:=cL.1 a;have:=yf (Γ:=Γ) i _ _ _ _ _ _ z f;obtain⟨g,c,e,s⟩:=this.pick;refine⟨.agg g,⟨g,rfl,c⟩,.agg g n ?_ ?_⟩
   . simpa[Value.cells] using e
   . simpa[Value.cells] using s
 . rename_i y;split at a
   . rename_i q j;simp only[aC] at a;subst a;have u:=Ut j y k;rw[u] at f;have:=yf (Γ:=Γ) i _ _ _ _ _ _ j f;obtain⟨x,c,e⟩:=this.2 0 q v rfl rfl;exact⟨x,c,e⟩
   . cases a
theorem Dd(q:∀b o v,w.cell? ⟨b,o,ag⟩=I v->Γ.S b o){r:Reach}{u:Nat}:∀(k:List TypeId)(e:List Value)(l:List (DataW H))(p:List MemPlace)(i:List ou),
 DataW.TrodAll enc P w 0 (λ_=>U) U k e l p->(∀(j:Nat) t v,k[j]? =I t->e[j]? =I v->Value.okWide P w r u t v)->uc P k=I i->
 ∃f,qq i f/\f.length=e.length/\l.length=i.length/\∀(j:Nat)(x:V)(v:Value),f[j]? =I x->e[j]? =I v->a_ w Γ x v
 |[],e,l,p,i,h,_,c=>by simp only[uc,aC] at c;subst c;obtain⟨rfl,rfl,rfl⟩:=trodAll_nil h;exact⟨[],rfl,rfl,rfl,λj x v h=>by simp at h⟩
 |t::k,e,l,p,i,h,s,c=>by
  obtain⟨v,Q,d,z,a,b,rfl,rfl,rfl,A,B⟩:=trodAll_cons h;simp only[uc] at c;split at c
  . rename_i R N F E;simp only[aC] at c;subst c;obtain⟨x,L,G⟩:=Qm (Γ:=Γ) q F (s 0 t v rfl rfl) A;obtain⟨f,M,D,C,J⟩:=Dd q k Q z b N B (λj O n K g=>s (j+1) O n (by simpa using K) (by simpa using g)) E;refine⟨x::f,⟨x,f,rfl,L,M⟩,by simp[D],by simp[C],λj y n m g=>?_⟩;cases j with
    |zero=>simp at m g;subst m;subst g;exact G
    |succ j=>exact J j y n (by simpa using m) (by simpa using g)
  . cases c
theorem L_{W i:World}(l:laidOutB P=U)(k:Below W.heap.size W i):∀(c:List TypeId)(f:List Value)(e:List (DataW H))(p:List MemPlace),
 (∀t∈c,P.readableRec t=U/\t<P.types.size)->DataW.TrodAll enc P W 0 (λ_=>U) U c f e p->(∀x∈p,x.block<W.heap.size)->
 DataW.TrodAll enc P i 0 (λb=>decide (b<W.heap.size)) U c f e p
 |[],f,e,p,_,h,_=>by obtain⟨rfl,rfl,rfl⟩:=trodAll_nil h;exact trodAll_mk0
 |t::c,f,e,p,n,h,m=>by obtain⟨v,w,d,o,a,b,rfl,rfl,rfl,q,r⟩:=trodAll_cons h;have j:=n t (by simp);exact⟨a,b,Below.trod l j.1 j.2 q k (λx g=>m x (by simp[g])),L_ l k c w o b (λu s=>n u (by simp[s])) r (λx g=>m x (by simp[g])),rfl⟩
end
def KC(P:Program)(a:List TypeId):Bool:=a.all λt=>P.readableRec t&&decide (t<P.types.size)
def Env.start(w:World):Env:=⟨w.heap.size,[],λb o=>∃v,w.cell? ⟨b,o,ag⟩=I v⟩
def Good.start(w:World)(c:∀a,Below w.heap.size w a->GT a):Good w (Env.start w) [] where
 len:=rfl
 dI i l B h:=by simp[Env.start] at h
 ek i l h:=by simp[Env.start] at h
 inj i j l l' h:=by simp[Env.start] at h
 hx b o h:=h
 bf:=bk _
 mH:=c
theorem Yo{H:Type}{enc:TypeId×Value->H}{C:Checked}{f:FuncId}{fn:Func}{s:ChangeSpec}{fresh J:Bool}{g:List ou}{A:TypeId}
 (ab:laidOutB C.prog=U)(z:s.vars=[])(ae:∀a:List (DataW H),a.length=g.length->s.fn H a={results:=[.lit (.bool U)],args:=a})
 (P:uc C.prog fn.params.toList=I g)(R:KC C.prog fn.params.toList=U)(T:fn.resultTypes=#[A]) (X:C.prog.underlying A=I .bool)
 (af:∀c,qq g c->bx C.prog f c [] (λv _=>v=.bool U)) (W:World) (F:∀B,Below W.heap.size W B->GT B) (bf:Nat) (args:Array Value) (a E:List (DataW H)) (D:List MemPlace)
 (Z:∀(j:Nat) t v,fn.params[j]? =I t->args[j]? =I v->Value.okWide C.prog W .any bf t v) (k:DataW.Whole enc C.prog fn.params.toList s.vars ad W args.toList a E D):
 Calls C.prog f args W λe i=>∃v,e=.returned v/\s.post enc C.prog fn ad fresh J ad W args v i:=by
 have G:=k;have O:=k.lt;obtain⟨p,q,n,r,rfl,aj,ak⟩:=k;rw[z] at r;obtain⟨rfl,rfl⟩:=trodVars_none r;obtain⟨c,aa,y,K,S⟩:=Dd (Γ:=Env.start W) (λb o v h=>⟨v,h⟩) fn.params.toList args.toList a p g n (λj t v m Y=>Z j t v (by simpa using m) (by simpa using Y)) P;have V:dz W (Env.start W) c args:=⟨by simpa using y.symm,λj x d=>by
  have N:j<c.length:=(az.1 d).1;have w:j<args.size:=by simpa[y] using N
  have:=S j x args[j] d (by simp[w]);rw[gL,Array.getElem?_eq_getElem w];exact this⟩;refine((af c aa).2 W (Env.start W) args (Good.start W F) V).mono λe i L=>?_;obtain⟨v,ai,al,ah,rfl,rfl,Q,_,M⟩:=L;have u:Below W.heap.size W i:=M.below;cases Q with
 |bool=>
  have l:=ae a K;refine⟨_,rfl,a,[],p++[],[],p,[],G,?_,?_,?_,u.frame _,λh=>by cases h⟩
  . rw[ez,l,T];exact trodAll_mk1 (Go.RowKit.shut_bool X _)
  . rw[ez,l];exact L_ ab u _ _ _ _ (λt m=>by have:=List.all_eq_true.1 R t m;simpa using this) n (λx d=>O x (by simp[d]))
  . rw[ez,l,z];rfl
def YI{H:Type}{enc:TypeId×Value->H}{C:Checked}{d:Os}{f:FuncId}{fn:Func}{s:ChangeSpec}{e:List PathCond}{fresh l:Bool}{pts:List ou}{tb:TypeId}{a:Assume}
 (own:ownKnob C.prog.godebug=ag)(u:laidOutB C.prog=U)(z:d.Started)(y:C.prog.inits.idxOf? f=ag)(m:C.prog.funcs[f]? =I fn)
 (t:s.vars=[])(ae:∀b:List (DataW H),b.length=pts.length->s.fn H b={results:=[.lit (.bool U)],args:=b})
 (n:uc C.prog fn.params.toList=I pts)(o:KC C.prog fn.params.toList=U)(p:fn.resultTypes=#[tb]) (q:C.prog.underlying tb=I .bool)
 (B:∃(w:World)(c:Tape)(i:Input),w.os=d/\(w.forCall c i).Shaped C.prog/\i.vars=[]/\Input.okWide C.prog (w.forCall c i) .any w.heap.size f i/\
   s.pre6 enc C.prog fn e ad (w.forCall c i).memory i.args/\a.holds C.prog (lone (Frame.enter C.prog f i.args .normal) [] (w.forCall c i)))
 (x:∀g,qq pts g->bx C.prog f g [] (λv _=>v=.bool U)) (eG:∀w:World,GT w:=by exactλ_=>trivial):
 ReturnsInHanded a C d f .any (s.pre6 enc C.prog fn e ad) (s.post enc C.prog fn ad fresh l ad):=
 returnsInHanded_of_change (C:=C) own z y m B λW bf args b j h r k _ _=>Yo u t ae n o p q x W (λA _=>eG A) bf args b j h r k
end Go.ao
namespace Go.ao
abbrev l5:=Nat->List V->Mem->Option (V×Mem)
abbrev Out:=Exit×av×Mem
def r_(cl:l5)(q:Bool)(f:Nat)(args:List V)(M:Mem):Option (V×Mem):=
 match q with
 |false=>cl f args M
 |true=>
  bif cd 0 args then
   match cl f args [] with
   |some (v,[])=>bif v.under 0 then I (v,M) else ag
   |_=>ag
  else ag
def zO(cl:l5)(q:Bool)(f:V)(args:List V)(M:Mem):Option (V×Mem):=
 match f with
 |.cI f a=>r_ cl q f (args++a) M
 |.fn f a=>r_ cl q f (args++a) M
 |_=>ag
def u6(s:av)(a:Option Nat)(c:Bool)(r:Option (V×Mem)):Option (av×Mem):=
 match r with
 |some (v,M)=>
  match c with
  |true=>match v with|.bool b=>I (a4 s a (.bool b),M)|_=>ag
  |false=>I (a4 s a v,M)
 |none=>ag
def tL(cl:l5)(q:Bool)(o:cH)(a:Option Nat)(b:Bool)(s:av)(M:Mem):Option (av×Mem):=
 match o with
 |.call f args=>u6 s a b (r_ cl q f (d5 s args) M)
 |.fM d args=>u6 s a b (zO cl q (aw s d) (d5 s args) M)
 |op=>
  match op.gb with
  |true=>match kw op s M with|some (v,c)=>I (a4 s a v,c)|none=>ag
  |false=>u6 s a b (match gv op s M with|some v=>I (v,M)|none=>ag)
def pI(cl:l5)(q:Bool):List bg->av->Mem->Option (av×Mem)
 |[],s,M=>I (s,M)
 |⟨a,op,e,ag⟩::c,s,M=>
  match tL cl q op a e s M with
  |some (f,d)=>pI cl q c f d
  |none=>ag
 |⟨a,op,e,I (g,h)⟩::c,s,M=>
  match aE s g with
  |.bool b=>
   bif b==h then
    match tL cl q op a e (dQ s g (.bool b)) M with
    |some (f,d)=>pI cl q c f d
    |none=>ag
   else pI cl q c (a4 (dQ s g (.bool b)) a (.tuple [])) M
  |.tuple []=>pI cl q c (a4 s a (.tuple [])) M
  |_=>ag
def u4(cl:l5)(q:Bool)(o:bg)(s:av)(M:Mem):Option (av×Mem):=
 match o with
 |⟨a,op,c,ag⟩=>tL cl q op a c s M
 |⟨a,op,c,I (g,d)⟩=>
  match aE s g with
  |.bool b=>
   bif b==d then tL cl q op a c (dQ s g (.bool b)) M
   else I (a4 (dQ s g (.bool b)) a (.tuple []),M)
  |.tuple []=>I (a4 s a (.tuple []),M)
  |_=>ag
def tJ(cl:l5):List bg->List Bool->av->Mem->Option (av×Mem)
 |o::b,q::c,s,M=>
  match u4 cl q o s M with
  |some (d,a)=>tJ cl b c d a
  |none=>ag
 |_,_,s,M=>I (s,M)
mutual
def im:V->V->Bool
 |.undef,.undef=>U
 |.bool a,.bool b=>a==b
 |.int k a,.int xn b=>decide (k=xn)&&decide (a=b)
 |.str a,.str b=>decide (a=b)
 |.db,.db=>U
 |.ff,.ff=>U
 |.hY,.hY=>U
 |.slice a c,.slice b d=>uw a b&&decide (c=d)
 |.eD a,.eD b=>lV a b
 |.cq a,.cq b=>lV a b
 |.cI f a,.cI g b=>dG f g&&lV a b
 |.ptr i o,.ptr j p=>dG i j&&dG o p
 |.df i v r o,.df Ak B4 Be o'=>dG i Ak&&dG v B4&&dG r Be&&dG o o'
 |.an i v r o,.an Ak B4 Be o'=>dG i Ak&&dG v B4&&dG r Be&&dG o o'
 |.map i,.map j=>dG i j
 |.fn f a,.fn g b=>dG f g&&lV a b
 |.agg a,.agg b=>lV a b
 |.tuple a,.tuple b=>lV a b
 |_,_=>ad
def lV:List V->List V->Bool
 |[],[]=>U
 |x::xs,y::mL=>im x y&&lV xs mL
 |_,_=>ad
def uw:List (List V)->List (List V)->Bool
 |[],[]=>U
 |x::xs,y::mL=>lV x y&&uw xs mL
 |_,_=>ad
end
def u3:List (Nat×bg×av×V)->Nat->Option (bg×av×V)
 |[],_=>ag
 |(i,x)::H,j=>match dG i j with|true=>I x|false=>u3 H j
def IY:V->Bool
 |.bool _=>U
 |_=>ad
def zM(cl:l5)(o:bg)(s:av)(v:V)(M:Mem):Bool:=
 match o.op with
 |.call f args=>(match r_ cl U f (d5 s args) M with|some (x,_)=>im x v|none=>ad)&&(!o.sm||IY v)
 |op=>(match gv op s M with|some x=>im x v|none=>ad)
def u2(cl:l5)(H:List (Nat×bg×av×V)):List Nat->Mem->Bool
 |[],_=>U
 |j::a,M=>
  (match u3 H j with
   |some (o,s,v)=>zM cl o s v M
   |none=>ad)&&u2 cl H a M
def qD(cl:l5):List bg->List (Option (List Nat))->Nat->List (Nat×bg×av×V)->av->Mem->Option (av×Mem)
 |o::d,ag::c,n,H,s,M=>
  match u4 cl U o s M with
  |some (b,a)=>qD cl d c (n+1) ((n,o,s,m2 b o.dst)::H) b a
  |none=>ag
 |o::d,I l::c,n,H,s,M=>
  match u4 cl ad o s M with
  |some (b,a)=>bif u2 cl H l a then qD cl d c (n+1) H b a else ag
  |none=>ag
 |_,_,_,_,s,M=>I (s,M)
def qE(c:av->Mem->Option Out)(a:List Nat)(len:Nat):Nat->List V->Mem->Option Out
 |0,_,_=>ag
 |k+1,d,M=>
  match c (jB a d) M with
  |some (.normal,s,b)=>bif gu len (cC s a) b then qE c a len k (cC s a) (b.take len) else qE c a len k (cC s a) b
  |r=>r
def mi(cJ:av->Mem->Option Out)(l:Nat)(a:List Nat):Nat->Option Out->Option Out
 |0,_=>ag
 |k+1,I (.goto b,s,M)=>bif b==l then mi cJ l a k (cJ (jB a (cC s a)) M) else ag
 |_+1,r=>r
def fc(cl:l5):Nat->bu->av->Mem->Option Out
 |0,_,_,_=>ag
 |n+1,c,s,M=>
  match c with
  |.skip=>I (.normal,s,M)
  |.label=>I (.normal,s,M)
  |.region g e=>match pI cl ad g s M with|some (f,d)=>I (.normal,fQ f e,d)|none=>ag
  |.mixed g j e=>match tJ cl g j s M with|some (f,d)=>I (.normal,fQ f e,d)|none=>ag
  |.oN _ _ _ _ _=>ag
  |.float g i e=>match qD cl g i 0 [] s M with|some (f,d)=>I (.normal,fQ f e,d)|none=>ag
  |.seq a b=>
   match fc cl n a s M with
   |some (.normal,f,d)=>fc cl n b f d
   |r=>r
  |.cond c a b=>
   match aw s c with
   |.bool U=>fc cl n a s M
   |.bool ad=>fc cl n b s M
   |_=>ag
  |.block id a=>
   match fc cl n a s M with
   |some (.exit h,f,d)=>bif h==id then I (.normal,f,d) else I (.exit h,f,d)
   |r=>r
  |.loop e a=>qE (fc cl n a) e M.length n (cC s e) M
  |.scope l e a cJ=>mi (fc cl n cJ) l e n (fc cl n a s M)
  |.exit id=>I (.exit id,s,M)
  |.goto l=>I (.goto l,s,M)
  |.ret=>I (.ret,s,M)
abbrev uE:=Nat->Option (aU×Bool)
def sa(fn:aU)(cj:Bool)(bf:Nat)(s:av)(a:Mem):Option (V×Mem):=
 match lQ s a fn.results with
 |some v=>
  match cj with
  |true=>I (v,a)
  |false=>
   match cY a bf 20 v with
   |some b=>bif b.under bf&&decide (bf<=a.length)&&b4 bf (a.take bf) then I (b,a.take bf) else ag
   |none=>ag
 |none=>ag
section
variable{P:Program}{cl:l5}
def nB(P:Program)(cl:l5):Prop:=∀f args M v a,cl f args M=I (v,a)->bx P f args M (λx N=>x=v/\N=a)
theorem w5(g:nB P cl){q:Bool}{f:Nat}{args:List V}{M:Mem}{v:V}{d:Mem}(h:r_ cl q f args M=I (v,d)){K:V->Mem->Prop}(i:K v d):lW P q f args M K:=by
 cases q with
 |false=>exact(g _ _ _ _ _ h).mono λx N ⟨a,b⟩=>by rw[a,b];exact i
 |true=>
  simp only[r_] at h;cases c:cd 0 args with
  |false=>simp[c] at h
  |true=>
   simp only[c,bi] at h;split at h
   . rename_i v0 j;obtain⟨k,e⟩:=ef h;simp only[dh] at e;obtain⟨rfl,rfl⟩:=e;have l:bq P f args (λx=>x=v0):=(g _ _ _ _ _ j).mono λx N ⟨a,b⟩=>⟨a,b,by rw[a];exact k⟩;exact⟨v0,bq.call l c (λx m _=>⟨m,rfl⟩),i⟩
   . cases h
def Tz(b:nB P cl){q:Bool}{f:V}{args:List V}{M:Mem}{v:V}{a:Mem}(h:zO cl q f args M=I (v,a)){K:V->Mem->Prop}(c:K v a):kj P q f args M K:=by
 unfold zO at h;split at h
 . exact w5 b h c
 . exact w5 b h c
 . cases h
def zR{s:av}{c:Option Nat}{d:Bool}{r:Option (V×Mem)}{e:av}{b:Mem}(h:u6 s c d r=I (e,b)):
 ∃v,r=I (v,b)/\∀K:av->Prop,K e->i4 s c d v K:=by
 unfold u6 at h;split at h
 . rename_i v f;split at h
   . split at h
     . simp only[aC,dh] at h;obtain⟨rfl,rfl⟩:=h;exact⟨_,rfl,λK a=>a⟩
     . cases h
   . simp only[aC,dh] at h;obtain⟨rfl,rfl⟩:=h;exact⟨_,rfl,λK a=>a⟩
 . cases h
def w6(k:nB P cl){q:Bool}{o:cH}{j:Option Nat}{g:Bool}{s:av}{M:Mem}{d:av}{i:Mem}(h:tL cl q o j g s M=I (d,i)){K:av->Mem->Prop}(b:K d i):wpOp P q o j g s M K:=by
 unfold tL at h;unfold wpOp;split at h
 . obtain⟨v,a,c⟩:=zR h;exact w5 k a (c _ b)
 . obtain⟨v,a,c⟩:=zR h;exact Tz k a (c _ b)
 . rename_i op p r;split
   . exact aJ rfl (p _ _)
   . exact aJ rfl (r _ _)
   . simp[cH.gb,kw] at h
   . rename_i neg x y;simp only[cH.gb,kw] at h;split at h
     . rename_i v l ae;simp only[aC,dh] at h;obtain⟨rfl,rfl⟩:=h;unfold pk;cases e:sg (aw s x) (aw s y) with
       |true=>
        unfold sg at e;split at e
        . rename_i m n;rw[m,n] at ae;cases ae
        . cases e
       |false=>show ps _ _;rw[ae];exact b
     . cases h
   . split at h
     . rename_i f;rw[f];split at h
       . rename_i v l ae;simp only[aC,dh] at h;obtain⟨rfl,rfl⟩:=h;rw[ae];exact b
       . cases h
     . rename_i f;rw[f];obtain⟨v,a,c⟩:=zR h;split at a
       . rename_i gz ae;simp only[aC,dh] at a;obtain⟨rfl,rfl⟩:=a;have:=c (λd=>K d M) b;rw[ae];cases g with
         |true=>exact this
         |false=>exact this
       . cases a
theorem u5(f:nB P cl){q:Bool}:∀(a:List bg)(s:av)(M:Mem)(e:av)(c:Mem),pI cl q a s M=I (e,c)->∀K:av->Mem->Prop,K e c->wpOps P q a s M K
 |[],s,M,e,c,h,K,d=>by simp only[pI,aC,dh] at h;obtain⟨rfl,rfl⟩:=h;exact d
 |⟨o,op,p,ag⟩::a,s,M,e,c,h,K,d=>by
  unfold pI at h;split at h
  . rename_i r n k;exact w6 f k (u5 f a _ _ _ _ h K d)
  . cases h
 |⟨o,op,p,I (g,m)⟩::a,s,M,e,c,h,K,d=>by
  unfold pI at h;unfold wpOps;split at h
  . rename_i b l;rw[l];cases j:(b==m) with
    |true=>
     have:b=m:=by simpa using j
     subst this;simp only[j,bi] at h;split at h
     . rename_i r n k;have i:=w6 (P:=P) f k (K:=λe c=>wpOps P q a e c K) (u5 f a _ _ _ _ h K d);cases b with
       |true=>exact i
       |false=>exact i
     . cases h
    |false=>
     simp only[j,eE] at h;have i:=u5 f a _ _ _ _ h K d;cases b<;>cases m<;>simp at j
     . exact i
     . exact i
  . rename_i l;rw[l];exact u5 f a _ _ _ _ h K d
  . cases h
theorem zQ(i:nB P cl){q:Bool}{o:bg}{s:av}{M:Mem}{j:av}{f:Mem}(h:u4 cl q o s M=I (j,f)){K:av->Mem->Prop}(c:K j f):f8 P q o s M K:=by
 obtain⟨l,op,m,g⟩:=o;cases g with
 |none=>exact w6 i h c
 |some k=>
  obtain⟨g,e⟩:=k;unfold u4 at h;unfold f8;simp only at h⊢;split at h
  . rename_i b d;rw[d];simp only;cases a:(b==e) with
    |true=>
     have:b=e:=by simpa using a
     subst this;simp only[a,bi] at h;cases b<;>exact w6 i h c
    |false=>simp only[a,eE,aC,dh] at h;obtain⟨rfl,rfl⟩:=h;cases b<;>cases e<;>simp at a<;>exact c
  . rename_i d;rw[d];simp only[aC,dh] at h;obtain⟨rfl,rfl⟩:=h;exact c
  . cases h
theorem EN(f:nB P cl):∀(c:List bg)(d:List Bool)(s:av)(M:Mem)(e:av)(a:Mem),tJ cl c d s M=I (e,a)->∀K:av->Mem->Prop,K e a->qj P c d s M K
 |o::c,q::d,s,M,e,a,h,K,b=>by
  unfold tJ at h;split at h
  . rename_i j i g;exact zQ f g (EN f c d _ _ _ _ h K b)
  . cases h
 |[],d,s,M,e,a,h,K,b=>by simp only[tJ,aC,dh] at h;obtain⟨rfl,rfl⟩:=h;exact b
 |o::c,[],s,M,e,a,h,K,b=>by simp only[tJ,aC,dh] at h;obtain⟨rfl,rfl⟩:=h;exact b
mutual
theorem B6:∀{x y:V},im x y=U->x=y
 |.undef,y,h=>by cases y<;>simp[im] at h⊢
 |.bool a,y,h=>by cases y<;>simp[im] at h⊢;exact h
 |.int k a,y,h=>by cases y<;>simp[im] at h⊢;exact h
 |.str a,y,h=>by cases y<;>simp[im] at h⊢;exact h
 |.db,y,h=>by cases y<;>simp[im] at h⊢
 |.ff,y,h=>by cases y<;>simp[im] at h⊢
 |.hY,y,h=>by cases y<;>simp[im] at h⊢
 |.slice a c,y,h=>by cases y<;>simp only[im,gX,bL,cZ] at h;rw[Mm h.1,h.2]
 |.eD a,y,h=>by cases y<;>simp only[im,gX] at h;rw[qh h]
 |.cq a,y,h=>by cases y<;>simp only[im,gX] at h;rw[qh h]
 |.cI f a,y,h=>by cases y<;>simp only[im,gX,bL] at h;rw[qh h.2,l2 h.1]
 |.ptr i o,y,h=>by cases y<;>simp[im] at h⊢;exact h
 |.df i v r o,y,h=>by cases y<;>simp[im] at h⊢;obtain⟨⟨⟨vm,vo⟩,Ag⟩,Ah⟩:=h;exact⟨vm,vo,Ag,Ah⟩
 |.an i v r o,y,h=>by cases y<;>simp[im] at h⊢;obtain⟨⟨⟨vm,vo⟩,Ag⟩,Ah⟩:=h;exact⟨vm,vo,Ag,Ah⟩
 |.map i,y,h=>by cases y<;>simp[im] at h⊢;exact h
 |.fn f a,y,h=>by cases y<;>simp only[im,gX,bL] at h;rw[qh h.2,l2 h.1]
 |.agg a,y,h=>by cases y<;>simp only[im,gX] at h;rw[qh h]
 |.tuple a,y,h=>by cases y<;>simp only[im,gX] at h;rw[qh h]
theorem qh:∀{xs mL:List V},lV xs mL=U->xs=mL
 |[],[],_=>rfl
 |x::xs,y::mL,h=>by simp only[lV,bL] at h;rw[B6 h.1,qh h.2]
 |[],y::mL,h=>by simp[lV] at h
 |x::xs,[],h=>by simp[lV] at h
theorem Mm:∀{xs mL:List (List V)},uw xs mL=U->xs=mL
 |[],[],_=>rfl
 |x::xs,y::mL,h=>by simp only[uw,bL] at h;rw[qh h.1,Mm h.2]
 |[],y::mL,h=>by simp[uw] at h
 |x::xs,[],h=>by simp[uw] at h
end
def wE(P:Program)(H:List (Nat×bg×av×V)):List (Nat×(Mem->Prop)):=H.map λe=>(e.1,e_ P e.2.1 e.2.2.1 e.2.2.2)
theorem EL:∀{H:List (Nat×bg×av×V)}{j:Nat}{x:bg×av×V}{M:Mem},u3 H j=I x->e_ P x.1 x.2.1 x.2.2 M->k6 (wE P H) j M
 |[],j,x,M,h,_=>by simp[u3] at h
 |(i,y)::H,j,x,M,h,b=>by
  simp only[u3] at h;simp only[wE,gg,k6];split at h
  . rename_i a;simp only[aC] at h;subst h;rw[a];exact b
  . rename_i a;rw[a];exact EL (H:=H) h b
def Ty(n:nB P cl){o:bg}{s:av}{v:V}{M:Mem}(h:zM cl o s v M=U):e_ P o s v M:=by
 have pure:∀op,(match gv op s M with|some x=>im x v|none=>ad)=U->gv op s M=I v:=λop h=>by
  split at h
  . rename_i x a;rw[B6 h] at a;exact a
  . cases h
 obtain⟨p,op,t,g⟩:=o;cases op
 case call f args=>
  simp only[zM,bL] at h;obtain⟨b,k⟩:=h;refine⟨?_,λi=>?_⟩
  . split at b
    . rename_i x c a;have r:c=M:=by
       simp only[r_] at a;cases j:cd 0 (d5 s args) with
       |false=>simp[j] at a
       |true=>
        simp only[j,bi] at a;split at a
        . obtain⟨_,e⟩:=ef a;simp only[dh] at e;exact e.2.symm
        . cases a
      have l:=w5 (q:=U) n a (K:=λy N=>y=x/\N=c) ⟨rfl,rfl⟩;obtain⟨y,d,m,_⟩:=l;subst m;rw[B6 b] at d;exact d
    . cases b
  . simp only at i;subst i;cases v<;>simp[IY] at k;exact⟨_,rfl⟩
 all_goals exact pure _ h
theorem EK(b:nB P cl){H:List (Nat×bg×av×V)}{M:Mem}:∀{l:List Nat},u2 cl H l M=U->i6 (wE P H) l M
 |[],_=>trivial
 |j::l,h=>by
  simp only[u2,bL] at h;obtain⟨a,c⟩:=h;refine⟨?_,EK b c⟩;split at a
  . rename_i o s v d;exact EL d (Ty b a)
  . cases a
theorem zP(f:nB P cl):∀(c:List bg)(a:List (Option (List Nat)))(n:Nat)(H:List (Nat×bg×av×V))(s:av)(M:Mem)(e:av)(d:Mem),qD cl c a n H s M=I (e,d)->∀K:av->Mem->Prop,K e d->j6 P c a n (wE P H) s M K
 |o::c,ag::a,n,H,s,M,e,d,h,K,b=>by
  unfold qD at h;split at h
  . rename_i k j g;exact zQ f g (zP f c a _ _ _ _ _ _ h K b)
  . cases h
 |o::c,I l::a,n,H,s,M,e,d,h,K,b=>by
  unfold qD at h;split at h
  . rename_i k j g;cases i:u2 cl H l j with
    |true=>simp only[i,bi] at h;exact zQ f g ⟨EK f i,zP f c a _ _ _ _ _ _ h K b⟩
    |false=>simp only[i,eE,reduceCtorEq] at h
  . cases h
 |[],a,n,H,s,M,e,d,h,K,b=>by simp only[qD,aC,dh] at h;obtain⟨rfl,rfl⟩:=h;cases a<;>exact b
 |o::c,[],n,H,s,M,e,d,h,K,b=>by simp only[qD,aC,dh] at h;obtain⟨rfl,rfl⟩:=h;exact b
theorem TF{g:av->Mem->Option Out}{a:bu}{f:List Nat}{len:Nat}{Q:Exit->av->Mem->Prop}(l:∀s M e c b(i:Exit->av->Mem->Prop),g s M=I (e,c,b)->i e c b->ck P a i s M)
 :∀(k:Nat)(d:List V)(M:Mem)(e:Exit)(c:av)(b:Mem),qE g f len k d M=I (e,c,b)->Q e c b->
  ∀(bt:Nat->List V->Mem->Prop),(∀k d M,(∃e c b,qE g f len k d M=I (e,c,b)/\Q e c b)->bt k d M)->ck P a (lf bt k len f Q) (jB f d) M
 |0,d,M,e,c,b,h,_,_,_=>by simp[qE] at h
 |k+1,d,M,e,c,b,h,al,bt,j=>by
  unfold qE at h;split at h
  . rename_i q n o;refine l _ _ _ _ _ _ o ?_;simp only[lf];cases m:gu len (cC q f) n with
    |true=>simp only[m,bi] at h;exact .inr ⟨rfl,k,Nat.lt_succ_self k,j _ _ _ ⟨_,_,_,h,al⟩⟩
    |false=>simp only[m,eE] at h;exact .inl ⟨k,Nat.lt_succ_self k,j _ _ _ ⟨_,_,_,h,al⟩⟩
  . rename_i p;refine l _ _ _ _ _ _ h ?_;cases e with
    |normal=>exact aJ h (p _ _)
    |_=>exact al
theorem TC{cJ:av->Mem->Option Out}{l:Nat}{g:List Nat}{k:Nat}{e:Exit}{s:av}{M:Mem}(d:∀f,e≠.goto f){b:Exit}{c:av}{a:Mem}(h:mi cJ l g k (I (e,s,M))=I (b,c,a)):b=e/\c=s/\a=M:=by
 cases k with
 |zero=>simp[mi] at h
 |succ k=>
  unfold mi at h;split at h
  . rename_i heq;simp at heq
  . rename_i heq;simp only[aC,dh] at heq;exact aJ heq.1 (d _)
  . rename_i heq;simp only[aC,dh] at h;exact⟨h.1.symm,h.2.1.symm,h.2.2.symm⟩
theorem zN(w:nB P cl):∀(n:Nat)(c:bu)(s:av)(M:Mem)(e:Exit)(f:av)(d:Mem)(Q:Exit->av->Mem->Prop),fc cl n c s M=I (e,f,d)->Q e f d->ck P c Q s M
 |0,c,s,M,e,f,d,Q,h,_=>by simp[fc] at h
 |n+1,c,s,M,e,f,d,Q,h,al=>by
  have t:=zN w n;cases c with
  |skip=>simp only[fc,aC,dh] at h;obtain⟨rfl,rfl,rfl⟩:=h;exact al
  |label=>simp only[fc,aC,dh] at h;obtain⟨rfl,rfl,rfl⟩:=h;exact al
  |exit id=>simp only[fc,aC,dh] at h;obtain⟨rfl,rfl,rfl⟩:=h;exact al
  |goto l=>simp only[fc,aC,dh] at h;obtain⟨rfl,rfl,rfl⟩:=h;exact al
  |ret=>simp only[fc,aC,dh] at h;obtain⟨rfl,rfl,rfl⟩:=h;exact al
  |region D i=>
   simp only[fc] at h;split at h
   . rename_i q g m;simp only[aC,dh] at h;obtain⟨rfl,rfl,rfl⟩:=h;exact u5 w _ _ _ _ _ m _ al
   . cases h
  |mixed D aa i=>
   simp only[fc] at h;split at h
   . rename_i q g m;simp only[aC,dh] at h;obtain⟨rfl,rfl,rfl⟩:=h;exact EN w _ _ _ _ _ _ m _ al
   . cases h
  |oN c z D R i=>simp only[fc] at h;cases h
  |float D R i=>
   simp only[fc] at h;split at h
   . rename_i q g m;simp only[aC,dh] at h;obtain⟨rfl,rfl,rfl⟩:=h;exact zP w _ _ _ _ _ _ _ _ m _ al
   . cases h
  |seq a b=>
   simp only[fc] at h;split at h
   . rename_i q g m;exact t a _ _ _ _ _ _ m (t b _ _ _ _ _ Q h al)
   . rename_i u;refine t a _ _ _ _ _ _ h ?_;cases e with
     |normal=>exact aJ h (u _ _)
     |_=>exact al
  |cond c a b=>
   simp only[fc] at h;simp only[ck];split at h
   . rename_i A;rw[A];exact t a _ _ _ _ _ Q h al
   . rename_i A;rw[A];exact t b _ _ _ _ _ Q h al
   . cases h
  |block id a=>
   simp only[fc] at h;simp only[ck];split at h
   . rename_i H q g m;refine t a _ _ _ _ _ _ m ?_;simp only[m0];cases aS:(H==id) with
     |true=>simp only[aS,bi,aC,dh] at h⊢;obtain⟨rfl,rfl,rfl⟩:=h;exact al
     |false=>simp only[aS,eE,aC,dh] at h⊢;obtain⟨rfl,rfl,rfl⟩:=h;exact al
   . rename_i u;refine t a _ _ _ _ _ _ h ?_;cases e with
     |exit H=>exact aJ h (u _ _ _)
     |_=>exact al
  |loop i a=>simp only[fc] at h;refine⟨λk j g=>∃e f d,qE (fc cl n a) i M.length k j g=I (e,f,d)/\Q e f d,n,⟨e,f,d,h,al⟩,λk j g ⟨O,q,E,m,Y⟩=>?_⟩;exact TF (λs M e f d N v Z=>t a s M e f d N v Z) k j g O q E m Y _ (λk j M h=>h)
  |scope l i a cJ=>
   simp only[fc] at h;have out:∀k(r:Out),(∃e f d,mi (fc cl n cJ) l i k (I r)=I (e,f,d)/\Q e f d)->
    (∃q g,r=(.goto l,q,g)/\∃o,k=o+1/\∃e f d,mi (fc cl n cJ) l i o (fc cl n cJ (jB i (cC q i)) g)=I (e,f,d)/\Q e f d)∨((∀p,r.1≠.goto p)/\Q r.1 r.2.1 r.2.2):=by
    intro k r ⟨e,f,d,h,al⟩;obtain⟨x,L,K⟩:=r;by_cases F:∃p,x=.goto p
    . obtain⟨p,rfl⟩:=F;cases k with
      |zero=>simp[mi] at h
      |succ k=>
       simp only[mi] at h;obtain⟨B,h⟩:=nQ h;have B:p=l:=by simpa using B
       subst B;exact .inl ⟨L,K,rfl,k,rfl,e,f,d,h,al⟩
    . have u:∀p,x≠.goto p:=λp T=>F ⟨p,T⟩;obtain⟨rfl,rfl,rfl⟩:=TC u h;exact .inr ⟨u,al⟩
   have part:∀(k:Nat)(c:bu)(s:av)(M:Mem)(y:List V->Mem->Prop),(∃e f d,mi (fc cl n cJ) l i k (fc cl n c s M)=I (e,f,d)/\Q e f d)->
    (∀j g o,k=o+1->(∃e f d,mi (fc cl n cJ) l i o (fc cl n cJ (jB i j) g)=I (e,f,d)/\Q e f d)->y j g)->ck P c (qS y l i Q) s M:=by
    intro k c s M y ⟨e,f,d,h,al⟩ S;cases C:fc cl n c s M with
    |none=>rw[C] at h;cases k<;>simp[mi] at h
    |some r=>
     rw[C] at h;refine t c s M r.1 r.2.1 r.2.2 _ C ?_;rcases out k r ⟨e,f,d,h,al⟩ with⟨q,g,rfl,o,G,v⟩|⟨u,X⟩
     . exact⟨rfl,S _ _ o G v⟩
     . obtain⟨x,L,K⟩:=r;cases x with
       |goto p=>exact aJ rfl (u p)
       |_=>exact X
   refine⟨λk j g=>∃e f d,mi (fc cl n cJ) l i k (fc cl n cJ (jB i j) g)=I (e,f,d)/\Q e f d,?_,λk j g v=>?_⟩
   . exact part n a s M _ ⟨e,f,d,h,al⟩ (λj g o _ v=>⟨o,v⟩)
   . exact part k cJ _ g _ v (λj E o G W=>⟨o,J,W⟩)
def mZ(P:Program)(a:uE):Prop:=∀f fn k,a f=I (fn,k)->∃h,mB P h f=I fn
def TA{fn:aU}{bf:Nat}{s:av}{a:Mem}{v:V}{N:Mem}(h:sa fn U bf s a=I (v,N)):lQ s a fn.results=I v/\N=a:=by
 unfold sa at h;split at h
 . rename_i v0 b;simp only[aC,dh] at h;obtain⟨rfl,rfl⟩:=h;exact⟨b,rfl⟩
 . cases h
def TB{fn:aU}{bf:Nat}{s:av}{a:Mem}{v:V}{N:Mem}(h:sa fn ad bf s a=I (v,N)):sF bf (λx K=>x=v/\K=N) (lQ s a fn.results) a:=by
 unfold sa at h;split at h
 . rename_i v0 d;rw[d];simp only at h;split at h
   . rename_i gz c;obtain⟨b,e⟩:=ef h;simp only[dh] at e;obtain⟨rfl,rfl⟩:=e;show hC (cY a bf 20 v0) _;rw[c];exact⟨b,rfl,rfl⟩
   . cases h
 . cases h
def j5:List (Nat×aU×Bool)->uE
 |[],_=>ag
 |(n,fn,k)::r,f=>bif n==f then I (fn,k) else j5 r f
def x_:mZ P (j5 []):=λ_ _ _ h=>by simp[j5] at h
theorem bT{n:Nat}{fn:aU}{k:Bool}{r:List (Nat×aU×Bool)}{h:iO}(c:mB P h n=I fn)(d:mZ P (j5 r)):mZ P (j5 ((n,fn,k)::r)):=λf b g e=>by
 simp only[j5] at e;cases a:(n==f) with
 |true=>
  simp only[a,bi,aC,dh] at e;have:n=f:=by simpa using a
  subst this;rw[<-e.1];exact⟨h,c⟩
 |false=>simp only[a,eE] at e;exact d f b g e
end
def sZ(bt:Nat->List V->Mem->Prop)(n:Nat)(m:Nat)(a:List V)(M:Mem):Prop:=∃i,m=n -i/\i<=n/\bt i a M
def bE{bt:Nat->List V->Mem->Prop}{n i len:Nat}{a:List Nat}{Q:Exit->av->Mem->Prop}{s:av}{M:Mem}(h:i<n)(b:bt (i+1) (cC s a) M):
 lf (sZ bt n) (n -i) len a Q .normal s M:=sJ (n -(i+1)) J ⟨i+1,rfl,h,b⟩
def cN{bt:Nat->List V->Mem->Prop}{n i len:Nat}{a:List Nat}{Q:Exit->av->Mem->Prop}{s:av}{M:Mem}(h:i<n)(c:gu len (cC s a) M=U)(b:bt (i+1) (cC s a) (M.take len)):
 lf (sZ bt n) (n -i) len a Q .normal s M:=x0 (n -(i+1)) J c ⟨i+1,rfl,h,b⟩
def d4{P:Program}{d:List Nat}{a:bu}{Q:Exit->av->Mem->Prop}{s:av}{M:Mem}(n:Nat)(bt:Nat->List V->Mem->Prop)(f:bt 0 (cC s d) M)
 (step:∀i c b,i<n->decide ((i:Int)<(n:Int))=U->bt i c b->ck P a (lf (sZ bt n) (n -i) M.length d Q) (jB d c) b)
 (last:∀c b,bt n c b->ck P a (lf (sZ bt n) 0 M.length d Q) (jB d c) b):ck P (.loop d a) Q s M:=by
 refine jz (sZ bt n) n ⟨0,rfl,c_ _,f⟩ ?_;rintro m c b ⟨i,rfl,k,h⟩;rcases eT i n with g|j
 . exact step i c b g bR h
 . have e:i=n:=J;subst e;have:=last c b h;rwa [hA]
def c6{α:Type}{P:Program}{d:List Nat}{a:bu}{Q:Exit->av->Mem->Prop}{s:av}{M:Mem}(l:List α)(bt:Nat->List V->Mem->Prop)(f:bt 0 (cC s d) M)
 (step:∀i x c b,l[i]? =I x->i<l.length->decide ((i:Int)<(l.length:Int))=U->bt i c b->ck P a (lf (sZ bt l.length) (l.length -i) M.length d Q) (jB d c) b)
 (last:∀c b,bt l.length c b->ck P a (lf (sZ bt l.length) 0 M.length d Q) (jB d c) b):ck P (.loop d a) Q s M:=
 d4 l.length bt f (λi c b e g h=>step i l[i] c b (cG e) e g h) last
def bV(a:Int):decide (a<a)=ad:=by simp
def R3{P:Program}{f:Nat}{args:List V}{v:V}{M:Mem}{K:V->Mem->Prop}(h:bq P f args (λx=>x=v))(b:cd 0 args=U)(a:K v M):bx P f args M K:=
 bq.call h b (λx c _=>by rw[c];exact a)
def dd(n:Int):Prop:=-9223372036854775808<=n/\n<=9223372036854775807
def XS{n:Int}(h:(Lit.int .i64 n).wf=U):dd n:=by
 have e:IntKind.i64.min=-9223372036854775808:=by decide
 have a:IntKind.i64.max=9223372036854775807:=by decide
 simp only[Lit.wf,e,a,bL,cZ] at h;exact h
def pR{a:List V}(h:km [] a):a=[]:=lY.1 h.1
theorem dT{e:fi}{g:List fi}{f:List V}(h:km (e::g) f):∃x d,f=x::d/\j8 e x/\km g d:=by
 obtain⟨i,h⟩:=h;cases f with
 |nil=>simp at i
 |cons x d=>exact⟨x,d,rfl,h 0 x e rfl rfl,by simpa using i,λj y c a b=>h (j+1) y c (by simpa using a) (by simpa using b)⟩
def m3{v:V}(h:j8 .bool v):∃b,v=.bool b:=by cases h;exact⟨_,rfl⟩
theorem gp{v:V}(h:j8 (.int .i64) v):∃n,v=.int .i64 n/\dd n:=by
 cases h with
 |int k n a=>exact⟨n,rfl,XS a⟩
def xj{v:V}(h:j8 .str v):∃s,v=.str s/\s.length<=maxLen:=by cases h;exact⟨_,rfl,‹_›⟩
theorem sk{α:Type}{row:α->List V}{wf:α->Prop}{e:List fi}(u:∀n,km e n->∃t,n=row t/\wf t){v:V}(h:j8 (.slice e) v):
 ∃(l:List α)(c:cg),v=.slice (l.map row) c/\(∀t∈l,wf t)/\l.length<=maxLen/\(c=.nil/\l=[]∨c=.any):=by
 cases h with
 |slice _ d c s g A h=>
  have key:∀d:List (List V),(∀r∈d,km e r)->∃l:List α,d=l.map row/\∀t∈l,wf t:=by
   intro d;induction d with
   |nil=>exactλ_=>⟨[],rfl,by simp⟩
   |cons r d B=>intro k;obtain⟨t,rfl,y⟩:=u r (k r (by simp));obtain⟨l,rfl,g⟩:=B λC p=>k C (by simp[p]);exact⟨t::l,rfl,by simpa using⟨y,g⟩⟩
  obtain⟨l,rfl,z⟩:=key d λr w=>by obtain⟨i,m⟩:=eb w;exact⟨A i r m,λj x o a b=>h i r j x o m a b⟩
  refine⟨l,c,rfl,z,by simpa using g,?_⟩;rcases s with⟨f,q⟩|f
  . exact .inl ⟨f,by simpa using q⟩
  . exact .inr f
def XC{a:List V}(h:qq [] a):a=[]:=h
def IK{p:ou}{a:List ou}{b:List V}(h:qq (p::a) b):∃x c,b=x::c/\yD p x/\qq a c:=h
def oM(e:Nat->Int)(n:Nat):Int×Int:=
 match(b8 n).find? (λk=>decide (e k≠0)) with
 |some k=>((k:Int),e k)
 |none=>(0,0)
def Uf{e:Nat->Int}{n i:Nat}(b:i<n)(h:∀k,k<i->e k=0)(a:e i≠0):oM e n=((i:Int),e i):=by
 have:(b8 n).find? (λk=>decide (e k≠0))=I i:=by rw[List.find?_range_eq_some];exact⟨by simpa using a,by simpa using b,λj c=>by simp[h j c]⟩
 simp only[oM,this]
def EX{e:Nat->Int}{n:Nat}(h:∀k,k<n->e k=0):oM e n=(0,0):=by
 have:(b8 n).find? (λk=>decide (e k≠0))=ag:=by rw[List.find?_eq_none];intro k a;simp[h k (hh.1 a)]
 simp only[oM,this]
class rL where p:Prop
class Nh where k:Bool->Prop
class Nk where k:V->Prop
class mQ where k:V->Mem->Prop
def l4(b:Bool)[A:rL][B:rL]:Prop:=ir b A.p B.p
def g2(o:Option V)[K:Nk]:Prop:=hC o K.k
def gB(o:Option V)[K:Nh]:Prop:=pp o K.k
def iP(o:Option (V×Mem))[K:mQ]:Prop:=ps o K.k
def nA(P:Program)(f:Nat)(args:List V)(M:Mem)[K:mQ]:Prop:=bx P f args M K.k
def s9(P:Program)(f:Nat)(args:List V)(M:Mem)[K:mQ]:Prop:=lW P U f args M K.k
def s_(P:Program)(q:Bool)(f:V)(args:List V)(M:Mem)[K:mQ]:Prop:=kj P q f args M K.k
def yL(neg:Bool)(x y:V)(M:Mem)[K:mQ]:Prop:=pk neg x y M K.k
def Cv(x:V)(M:Mem)[K:mQ]:Prop:=oi x M K.k
def Ck(P:Program)(f:Nat)(args:List V)(M:Mem)(n:Nat)(z:List V)[K:mQ]:Prop:=yx P f args M n (.box z) K.k
theorem MM(A:Prop)(B:rL):@l4 U ⟨A⟩ B=A:=rfl
theorem MK(A:rL)(B:Prop):@l4 ad A ⟨B⟩=B:=rfl
theorem ML(b:Bool)(A B:rL):@l4 (!b) A B=@l4 b B A:=by cases b<;>rfl
theorem xL(b:Bool)(A B:Prop):@l4 b ⟨A⟩ ⟨B⟩=ir b A B:=rfl
theorem O3(v:V)(K:V->Prop):@g2 (I v) ⟨K⟩=K v:=rfl
theorem O1(b:Bool)(K:Bool->Prop):@gB (I (.bool b)) ⟨K⟩=K b:=rfl
theorem O2(v:V)(M:Mem)(K:V->Mem->Prop):@iP (I (v,M)) ⟨K⟩=K v M:=rfl
theorem SO(t:Bool)(A B:Prop):uW (.bool t) A B=@l4 t ⟨A⟩ ⟨B⟩:=rfl
theorem MV(P:Program)(f:Nat)(a args:List V)(M:Mem)(K:mQ):@s_ P ad (.cI f a) args M K=@nA P f (args++a) M K:=rfl
theorem MU(P:Program)(f:Nat)(a args:List V)(M:Mem)(K:mQ):@s_ P ad (.fn f a) args M K=@nA P f (args++a) M K:=rfl
theorem MT(P:Program)(f:Nat)(a args:List V)(M:Mem)(K:mQ):@s_ P U (.cI f a) args M K=@s9 P f (args++a) M K:=rfl
theorem MS(P:Program)(f:Nat)(a args:List V)(M:Mem)(K:mQ):@s_ P U (.fn f a) args M K=@s9 P f (args++a) M K:=rfl
def aW{p:Prop}[Decidable p]{A B:Prop}(a:p->A)(b:¬p->B):@l4 (decide p) ⟨A⟩ ⟨B⟩:=uB a b
def dt{b:Bool}{A B:Prop}(a:b=U->A)(c:b=ad->B):@l4 b ⟨A⟩ ⟨B⟩:=MP a c
def ch{P:Program}{f:Nat}{args:List V}{M:Mem}{R K:V->Mem->Prop}(h:bx P f args M R)(b:∀v a,R v a->K v a):@nA P f args M ⟨K⟩:=bx.mono h b
def bG{P:Program}{f:Nat}{args:List V}{v:V}{M:Mem}{K:V->Mem->Prop}(h:bq P f args (λx=>x=v))(a:K v M)(b:cd 0 args=U:=by rfl):@nA P f args M ⟨K⟩:=R3 h b a
def d2{P:Program}{f:Nat}{args:List V}{R:V->Prop}{M:Mem}{K:V->Mem->Prop}(h:bq P f args R)(a:∀v,R v->K v M)(b:cd 0 args=U:=by rfl):@nA P f args M ⟨K⟩:=bq.call h b (λv c _=>a v c)
def kc{P:Program}{f:Nat}{args:List V}{v:V}{M:Mem}{K:V->Mem->Prop}(h:bx P f args M (λx a=>x=v/\a=M))(d:K v M):@nA P f args M ⟨K⟩:=
 bx.mono h λx a ⟨b,c⟩=>by rw[b,c];exact d
def nO{P:Program}{f:Nat}{args:List V}{v:V}{M:Mem}{K:V->Mem->Prop}(h:bq P f args (λx=>x=v))(a:K v M)(b:cd 0 args=U:=by rfl):@s9 P f args M ⟨K⟩:=
 ⟨v,bq.call h b (λx c _=>⟨c,rfl⟩),a⟩
def R1{P:Program}{f:Nat}{args:List V}{v:V}{M:Mem}{K:V->Mem->Prop}(h:bx P f args M (λx a=>x=v/\a=M))(b:K v M):@s9 P f args M ⟨K⟩:=⟨v,h,b⟩
def wO{P:Program}{f:Nat}{args:List V}{v:V}{M:Mem}{n:Nat}{z:List V}{K:V->Mem->Prop}(h:bq P f args (λx=>x=v))(d:M[n]? =I .dead)(c:K v M)(b:cd 0 args=U:=by rfl):@Ck P f args M n z ⟨K⟩:=
 ⟨v,M,d,bq.call h b (λx a _=>⟨a,rfl⟩),bq.call h b (λx a _=>⟨a,rfl⟩),c⟩
theorem O8(neg:Bool)(i o j p:Nat)(M:Mem)(K:mQ):@yL neg (.ptr i o) (.ptr j p) M K=iP (sE neg (.ptr i o) (.ptr j p) M):=rfl
def aam{neg:Bool}{a c:List V}{M:Mem}{K:V->Mem->Prop}(h:∀b:Bool,K (.bool b) M):@yL neg (.cq a) (.cq c) M ⟨K⟩:=⟨h U,h ad⟩
def ZY{id mid:Nat}{seen:List Nat}{a:List (V×V)}{M:Mem}{K:V->Mem->Prop}(c:M[id]? =I (.iter mid a.length seen))(d:M[mid]? =I (.map a))(e:(∀i,i<a.length->i∈seen)->K (.tuple [.bool ad]) M)
 (f:∀i b,a[i]? =I b->i∉seen->K (.tuple [.bool U,b.1,b.2]) (M.set id (.iter mid a.length (seen++[i])))):@Cv (.ptr id 0) M ⟨K⟩:=by
 show oi _ _ _;simp only[oi,c,d];exact⟨trivial,e,f⟩
theorem X9(a:List V->Mem->Prop)(l:Nat)(b:List Nat)(Q:Exit->av->Mem->Prop)(s:av)(M:Mem):qS a l b Q .normal s M=Q .normal s M:=rfl
theorem X_(a:List V->Mem->Prop)(l:Nat)(b:List Nat)(Q:Exit->av->Mem->Prop)(s:av)(M:Mem):qS a l b Q .ret s M=Q .ret s M:=rfl
theorem X7(a:List V->Mem->Prop)(l:Nat)(b:List Nat)(Q:Exit->av->Mem->Prop)(id:Nat)(s:av)(M:Mem):qS a l b Q (.exit id) s M=Q (.exit id) s M:=rfl
theorem X8(a:List V->Mem->Prop)(l:Nat)(c:List Nat)(Q:Exit->av->Mem->Prop)(b:Nat)(s:av)(M:Mem):qS a l c Q (.goto b) s M=(b=l/\a (cC s c) M):=rfl
theorem Da(b bytes id ver len:Nat)(a:List (List V))(c:cg)(M:Mem):cw ad b bytes (.an id ver 0 len) (.slice a c) M=(bif dP b a then(match M[id]? with
 |some (.aj z d v e)=>
  bif z==b&&v==ver&&len==d.length&&decide ((d.length+a.length)*(2*bytes)<=2^48) then
   I (.an id (ver+1) 0 (len+a.length),M.set id (.aj b (d++a) (ver+1) e))
  else bif z==b&&v==ver&&decide (len<=d.length)&&decide (e<=len)&&decide ((len+a.length)*(2*bytes)<=2^48) then
   I (.an id (ver+1) 0 (len+a.length),M.set id (.aj b (d.take len++a) (ver+1) e))
  else ag
 |some (.b7 cells v)=>
  match a with
  |[[x]]=>
   bif b==1&&v==ver&&len==cells.length&&decide ((cells.length+1)*(2*bytes)<=2^48) then
    I (.an id (ver+1) 0 (len+1),M.set id (.b7 (cells++[x]) (ver+1)))
   else ag
  |_=>ag
 |_=>ag) else ag):=by
 simp only[cw,dg];cases dP b a<;>rfl
theorem pw(b bytes:Nat)(s:List (List V))(c d:cg)(a:List (List V))(M:Mem):cw U b bytes (.slice s c) (.slice a d) M=(bif dP b a then bif dP b s&&(decide (c=.nil)||decide (c=.full))&&decide ((s.length+a.length)*(2*bytes)<=2^48) then I (.slice (s++a) .bF,M) else ag else ag):=by simp only[cw,dg];cases dP b a<;>rfl
theorem IM(n:Nat)(r:List V)(a:List (List V)):dP n (r::a)=(r.length==n):=rfl
theorem XE(n:Nat):dP n []=U:=rfl
theorem pS{α:Type}{f:α->List V}{n:Nat}(h:∀x,(f x).length=n)(l:List α):dP n (l.map f)=U:=by
 cases l with
 |nil=>rfl
 |cons x l=>simp[dP,h]
theorem ZW(a:Nat)(M:Mem)(h:0<a):t9 a M=I (.an M.length 0 0 0,M++[.aj a [] 0 0]):=by
 cases a with
 |zero=>cases h
 |succ n=>rfl
theorem ZX(M:Mem):t9 0 M=I (.an M.length 0 0 0,M++[.b7 [] 0]):=rfl
theorem adV(cells:List V)(row:Nat):uv 1 ad 0 cells row=cells[row]? :=rfl
theorem adY(x:V)(cells:List V)(row:Nat):ym 0 [x] cells row=bif decide (row<cells.length) then I (cells.set row x) else ag:=rfl
theorem Rb(id ver len:Nat)(M:Mem):oG (.an id ver 0 len) M=(match M[id]? with
 |some (.aj z a v _)=>bif z==1&&v==ver&&decide (len<=a.length) then(tx (a.take len)).map .str else ag
 |_=>ag):=by
 simp only[oG,dg,dm,hN];cases M[id]? with
 |none=>rfl
 |some B=>
  cases B with
  |aj z a v b=>cases h:(z==1&&v==ver&&decide (len<=a.length))<;>simp[h]
  |_=>rfl
theorem SY{a b:Nat}(h:a<=b):decide (a<=b)=U:=be h
theorem Zt(k:IntKind)(a b:Int):oU U (.int k a) (.int k b)=I (.int k (max a b)):=by
 simp only[oU,decide_true,bi,Int.max_def]
 congr 2
 split<;>split<;>omega
theorem Zu(k:IntKind)(a b:Int):oU ad (.int k a) (.int k b)=I (.int k (min a b)):=by
 simp only[oU,decide_true,bi,Int.min_def]
 congr 2
 split<;>split<;>omega
theorem ZB(f:Nat)(a:List V):sy f a=bif fL a then .cI f a else .fn f a:=rfl
theorem Q9(z:List V)(a:List (Nat×Nat×V)):r1 z a=(match ml z a with|some b=>I (.agg b)|none=>ag):=rfl
theorem Q6(z:List V)(c len:Nat)(b:List (Nat×Nat×V)):r0 z c len b=(match ml z b with|some a=>bif fL a then I (.slice (oI c len a) .full) else ag|none=>ag):=rfl
def Le(b:Nat)(a:List (List V))(c:cg)(k m:IntKind)(l h:Int)(M:Mem)(i:0<=l)(n:l<=h)(o:h<=(a.length:Int))(j:dP b a=U):
 eQ b (.slice a c) (I (.int k l)) (I (.int m h)) ag M=I (.slice ((a.drop l.toNat).take (h.toNat -l.toNat)) (kp c h.toNat a.length a.length ad)):=by
 have d:decide (0<=l)=U:=be i;have e:decide (0<=h)=U:=bR;have f:decide (l.toNat<=h.toNat)=U:=bR;have g:decide (h.toNat<=a.length)=U:=bR;simp only[eQ,gE,d,e,f,g,bi,j,cR,decide_true,bk,Option.isSome_none]
def Ld(b:Nat)(a:List (List V))(c:cg)(k:IntKind)(l:Int)(M:Mem)(f:0<=l)(h:l<=(a.length:Int))(g:dP b a=U):
 eQ b (.slice a c) (I (.int k l)) ag ag M=I (.slice (a.drop l.toNat) (kp c a.length a.length a.length ad)):=by
 have d:decide (0<=l)=U:=be f;have e:decide (l.toNat<=a.length)=U:=bR;simp only[eQ,gE,d,e,bi,g,cR,decide_true,bk,Option.isSome_none];rw[eS (by simp)]
def acI(b:Nat)(a:List (List V))(c:cg)(g:IntKind)(h:Int)(M:Mem)(i:0<=h)(j:h<=(a.length:Int))(f:dP b a=U):
 eQ b (.slice a c) ag (I (.int g h)) ag M=I (.slice (a.take h.toNat) (kp c h.toNat a.length a.length ad)):=by
 have d:decide (0<=h)=U:=bR;have e:decide (h.toNat<=a.length)=U:=bR;simp only[eQ,gE,d,e,bi,f,cR,decide_true,bk,Option.isSome_none,c_,Nat.sub_zero,hN]
theorem Zd(M:Mem):sw ag M=I (.map M.length,M++[.map []]):=rfl
theorem Zf(k:IntKind)(n:Int)(M:Mem):sw (I (.int k n)) M=I (.map M.length,M++[.map []]):=rfl
def k5(c:en)(z:V)(ok:Bool)(key:V)(a:List (V×V)):Option V:=lJ c [z] ad ok (.map 0) key [.map a]
def li(c:en)(key x:V)(a:List (V×V)):Option (List (V×V)):=bif iW c key&&k3 c key a&&x.gU then I (lK c key x a) else ag
theorem AB(c:en)(z:V)(ok:Bool)(id:Nat)(key:V)(M:Mem):lJ c [z] ad ok (.map id) key M=(match M[id]? with|some (.map a)=>k5 c z ok key a|_=>ag):=by
 simp only[k5,lJ,kv,hg];cases h:M[id]? with
 |none=>cases iW c key<;>rfl
 |some B=>cases B<;>cases iW c key<;>rfl
theorem adL(c:en)(id:Nat)(key x:V)(M:Mem):t2 c (.map id) key x M=(match M[id]? with|some (.map a)=>(match li c key x a with|some b=>I (.undef,M.set id (.map b))|none=>ag)|_=>ag):=by
 simp only[t2,AF,li];cases h:M[id]? with
 |none=>rfl
 |some B=>
  cases B with
  |map a=>simp only[];cases iW c key&&k3 c key a&&x.gU<;>rfl
  |box _=>rfl
  |aj _ _ _ _=>rfl
  |b7 _ _=>rfl
  |iter _ _ _=>rfl
  |dead=>rfl
theorem Qy(a:List ex)(b c:List V):cT .eql (.cells a) (.agg b) (.agg c)=(fk a b c).map .bool:=rfl
theorem Qz(a:List ex)(c d:List V):cT .neq (.cells a) (.agg c) (.agg d)=(fk a c d).map λb=>.bool !b:=rfl
theorem Sa(k:IntKind)(a b:Int):gn .int (.int k a) (.int k b)=I (decide (a=b)):=by simp[gn]
theorem R_(a b:Bool):gn .bool (.bool a) (.bool b)=I (decide (a=b)):=rfl
theorem Sb(a b:List UInt8):gn .str (.str a) (.str b)=I (decide (a=b)):=rfl
theorem Sh(a b:List V):fk [] a b=I U:=by cases a<;>rfl
theorem Sg(c:ex)(a:List ex)(x y:V)(e f:List V):fk (c::a) (x::e) (y::f)=(match gn c x y,fk a e f with|some b,I d=>I (b&&d)|_,_=>ag):=rfl
theorem yb{α β:Type}(f:α->β)(l:List α):(l.map f).take l.length=l.map f:=eS (by simp)
attribute [go_sem↓] aej My aep aem aeo aek ael aeg acl acm acj ack QW QX QU QV
 abT abR abS Tp Tq X9 X_ X7 X8 Cd dN
attribute [go_sem] sE O8 QA QN QB SO Kh Yb lQ sH vT O4 O3 O1 O2 MM MK ML MQ MN MO
 MV MU MT MS nq aE jB cC
 cond_true cond_false dm g_ bk decide_true decide_false
 Qx QR QK QE QL QJ QI QG QF QO QP QC QD adE adD aax aav XY IX XT XZ ZL ZJ ZK ZI
 YV YT YU YP YO Jf qf uo YE YD Yy TQ Ef Ua wx uR
 cc eu cz dK hg List.getElem?_cons_succ hN List.drop_succ_cons List.take_succ_cons List.take_zero eH fG List.set_cons_zero List.set_cons_succ
 V.cells? e6 ko V.gU Bool.and_true cR Bool.true_and jE Option.map_none dU toNat_sub1 toNat_add1 toNat_lit0 kH
 cY eO V.under cd b4 au.under V.ia fL true_and and_true V.bool.injEq V.int.injEq V.str.injEq
 Da pw IM XE ZW ZX adV adY Rb SY Zt Zu ZB Q9 Q6 ml oI Qy Qz Sa R_ Sb Sh Sg Zd Zf AB adL yb beq_self_eq_true Bool.not_true Bool.not_false Bool.false_and Bool.and_false b0
def vx:List (Nat×List V×V)->Nat->List V->Option V
 |[],_,_=>ag
 |(g,a,v)::r,f,args=>bif dG g f&&lV a args then I v else vx r f args
def vL:List (Nat×Nat)->Nat->Nat->Bool
 |[],_,_=>ad
 |(a,b)::r,g,f=>(dG a g&&dG b f)||vL r g f
def nS(c:List (Nat×List V×V))(b:List (Nat×Nat))(d:uE):Nat->Nat->l5
 |0,_,_,_,_=>ag
 |n+1,g,f,args,M=>
  match vx c f args with
  |some v=>I (v,M)
  |none=>
   match d f with
   |some (fn,cj)=>
    bif decide (args.length<=fn.ntmps) then
     match fc (nS c b d n f) n fn.body (nq args 0) M with
     |some (.normal,s,a)=>sa fn (cj&&!vL b g f) M.length s a
     |some (.ret,s,a)=>sa fn (cj&&!vL b g f) M.length s a
     |_=>ag
    else ag
   |none=>ag
variable{P:Program}
def uG(P:Program)(b:List (Nat×List V×V)):Prop:=∀f a v,(f,a,v)∈b->cd 0 a=U/\bq P f a (λx=>x=v)
theorem I4:∀{b:List (Nat×List V×V)}{f:Nat}{args:List V}{v:V},vx b f args=I v->(f,args,v)∈b
 |[],f,args,v,h=>by simp[vx] at h
 |(g,c,y)::r,f,args,v,h=>by
  simp only[vx] at h;cases a:(dG g f&&lV c args) with
  |true=>rw[a] at h;simp only[bi,aC] at h;simp only[bL] at a;rw[<-l2 a.1,<-qh a.2,<-h];exact ft
  |false=>rw[a] at h;exact fs _ (I4 (by simpa using h))
theorem EM{k:List (Nat×List V×V)}(q:uG P k){pops:List (Nat×Nat)}{l:uE}(r:mZ P l):∀n g,nB P (nS k pops l n g)
 |0,g,f,args,M,v,a,h=>by simp[nS] at h
 |n+1,g,f,args,M,v,a,h=>by
  have t:=EM (pops:=pops) q r n f;unfold nS at h;split at h
  . rename_i v0 w;simp only[aC,dh] at h;obtain⟨rfl,rfl⟩:=h;obtain⟨j,u⟩:=q _ _ _ (I4 w);exact bq.call u j λx A _=>⟨A,rfl⟩
  split at h
  . rename_i fn cj z;obtain⟨i,h⟩:=nQ h;have i:args.length<=fn.ntmps:=by simpa using i
    obtain⟨B,o⟩:=r f fn cj z;have fin:∀(e:Exit)(s:av)(c:Mem),(e=.normal∨e=.ret)->fc (nS k pops l n f) n fn.body (nq args 0) M=I (e,s,c)->sa fn (cj&&!vL pops g f) M.length s c=I (v,a)->bx P f args M (λx N=>x=v/\N=a):=by
     intro e s c m b d;cases p:(cj&&!vL pops g f) with
     |true=>
      rw[p] at d;obtain⟨j,rfl⟩:=TA d;refine CL o i ?_;refine zN t n _ _ _ _ _ _ _ b ?_;have y:k1 (λx N=>x=v/\N=a) (lQ s a fn.results) a:=by rw[j];exact⟨rfl,rfl⟩
      rcases m with rfl|rfl<;>exact y
     |false=>rw[p] at d;refine CN o i ?_;refine zN t n _ _ _ _ _ _ _ b ?_;rcases m with rfl|rfl<;>exact TB d
    split at h
    . rename_i s c b;exact fin _ _ _ (.inl rfl) b h
    . rename_i s c b;exact fin _ _ _ (.inr rfl) b h
    . cases h
  . cases h
def aak{b:List (Nat×List V×V)}(e:uG P b){j:List (Nat×Nat)}{c:uE}(g:mZ P c)(n:Nat){f:Nat}{args:List V}{v:V}(h:nS b j c n 0 f args []=I (v,[]))(i:v.under 0=U):bq P f args (λx=>x=v):=
 bx.mono (EM e g n 0 _ _ _ _ _ h) λx N ⟨a,d⟩=>⟨a,d,by rw[a];exact i⟩
end Go.ao
namespace Go.ao
class Ni where
 v:V
 s:av
class wg where
 s:av
 k:av->Mem->Prop
class yE where
 H:List (Nat×(Mem->Prop))
 s:av
 k:av->Mem->Prop
def BB(b:Bool)(u:Nat)[h:Ni]:V:=bif b then h.v else aE h.s u
theorem acu(t:Nat)(v:V)(s:av)(u:Nat):aE ((t,v)::s) u=@BB (t==u) u ⟨v,s⟩:=rfl
theorem act(u:Nat)(v:V)(s:av):@BB U u ⟨v,s⟩=v:=rfl
theorem acs(u:Nat)(v:V)(s:av):@BB ad u ⟨v,s⟩=aE s u:=rfl
theorem acX(s:av)(u:Nat)(x:V):dQ s u x=(u,x)::s:=rfl
theorem acW(s:av)(u:Nat)(x:V):a4 s (I u) x=(u,x)::s:=rfl
theorem acV(s:av)(x:V):a4 s ag x=s:=rfl
theorem acQ(s:av):fQ s []=[]:=rfl
theorem acP(s:av)(t:Nat)(a:List Nat):fQ s (t::a)=(t,aE s t)::fQ s a:=rfl
theorem TL(s:av)(t:Nat):aw s (.tmp t)=aE s t:=rfl
theorem TK(s:av)(v:V):aw s (.const v)=v:=rfl
theorem TH(s:av)(x:aA):dO s (I x)=I (aw s x):=rfl
theorem TG(s:av):dO s ag=ag:=rfl
theorem TE(s:av):d5 s []=[]:=rfl
theorem TD(s:av)(x:aA)(a:List aA):d5 s (x::a)=aw s x::d5 s a:=rfl
theorem TJ(s:av):iB s []=[]:=rfl
theorem TI(s:av)(a b:Nat)(x:aA)(c:List (Nat×Nat×aA)):iB s ((a,b,x)::c)=(a,b,aw s x)::iB s c:=rfl
def yz(v:V)[A:rL][B:rL]:Prop:=uW v A.p B.p
theorem MY(t:Bool)(A B:Prop):@yz (.bool t) ⟨A⟩ ⟨B⟩=@l4 t ⟨A⟩ ⟨B⟩:=rfl
theorem aei(P:Program)(c:aA)(a b:bu)(Q:Exit->av->Mem->Prop)(s:av)(M:Mem):ck P (.cond c a b) Q s M=@yz (aw s c) ⟨ck P a Q s M⟩ ⟨ck P b Q s M⟩:=by simp only[ck,yz,uW]<;>cases aw s c<;>rfl
def cu(P:Program)(q:Bool)(a:Option Nat)(op:cH)(b:Bool)(M:Mem)[h:wg]:Prop:=wpOp P q op a b h.s M h.k
def rJ(P:Program)(q:Bool)(g:Nat)(w:Bool)(a:Option Nat)(op:cH)(c:Bool)(v:V)(M:Mem)[h:wg]:Prop:=
 match v with
 |.bool b=>
  match w with
  |true=>ir b (wpOp P q op a c (dQ h.s g (.bool U)) M h.k) (h.k (a4 (dQ h.s g (.bool ad)) a (.tuple [])) M)
  |false=>ir b (h.k (a4 (dQ h.s g (.bool U)) a (.tuple [])) M) (wpOp P q op a c (dQ h.s g (.bool ad)) M h.k)
 |.tuple []=>h.k (a4 h.s a (.tuple [])) M
 |_=>False
theorem Ng(P:Program)(q:Bool)(g:Nat)(a:Option Nat)(op:cH)(c b:Bool)(M:Mem)(s:av)(k:av->Mem->Prop):@rJ P q g U a op c (.bool b) M ⟨s,k⟩=@l4 b ⟨@cu P q a op c M ⟨(g,.bool U)::s,k⟩⟩ ⟨k (a4 ((g,.bool ad)::s) a (.tuple [])) M⟩:=rfl
theorem Nd(P:Program)(q:Bool)(g:Nat)(a:Option Nat)(op:cH)(c b:Bool)(M:Mem)(s:av)(k:av->Mem->Prop):@rJ P q g ad a op c (.bool b) M ⟨s,k⟩=@l4 b ⟨k (a4 ((g,.bool U)::s) a (.tuple [])) M⟩ ⟨@cu P q a op c M ⟨(g,.bool ad)::s,k⟩⟩:=rfl
theorem Nf(P:Program)(q:Bool)(g:Nat)(w:Bool)(a:Option Nat)(op:cH)(b:Bool)(M:Mem)(s:av)(k:av->Mem->Prop):@rJ P q g w a op b (.tuple []) M ⟨s,k⟩=k (a4 s a (.tuple [])) M:=rfl
def kM(P:Program)(a:List bg)(M:Mem)[h:wg]:Prop:=wpOps P ad a h.s M h.k
def rO(P:Program)(a:List bg)(b:List Bool)(M:Mem)[h:wg]:Prop:=qj P a b h.s M h.k
def rG(P:Program)(b:List bg)(a:List (Option (List Nat)))(n:Nat)(M:Mem)[h:yE]:Prop:=j6 P b a n h.H h.s M h.k
theorem uh(P:Program)(b:List bg)(a:List Nat)(Q:Exit->av->Mem->Prop)(s:av)(M:Mem):ck P (.region b a) Q s M=@kM P b M ⟨s,λd c=>Q .normal (fQ d a) c⟩:=rfl
theorem Zz(P:Program)(b:List bg)(c:List Bool)(a:List Nat)(Q:Exit->av->Mem->Prop)(s:av)(M:Mem):ck P (.mixed b c a) Q s M=@rO P b c M ⟨s,λe d=>Q .normal (fQ e a) d⟩:=rfl
theorem Uy(P:Program)(c:List bg)(a:List (Option (List Nat)))(b:List Nat)(Q:Exit->av->Mem->Prop)(s:av)(M:Mem):ck P (.float c a b) Q s M=@rG P c a 0 M ⟨[],s,λe d=>Q .normal (fQ e b) d⟩:=rfl
theorem OZ(P:Program)(M:Mem)(s:av)(k:av->Mem->Prop):@kM P [] M ⟨s,k⟩=k s M:=rfl
theorem O0(P:Program)(a:Option Nat)(op:cH)(b:Bool)(c:List bg)(M:Mem)(s:av)(k:av->Mem->Prop):@kM P (⟨a,op,b,ag⟩::c) M ⟨s,k⟩=@cu P ad a op b M ⟨s,λe d=>@kM P c d ⟨e,k⟩⟩:=rfl
theorem OY(P:Program)(a:Option Nat)(op:cH)(b:Bool)(g:Nat)(w:Bool)(c:List bg)(M:Mem)(s:av)(k:av->Mem->Prop):@kM P (⟨a,op,b,I (g,w)⟩::c) M ⟨s,k⟩=@rJ P ad g w a op b (aE s g) M ⟨s,λe d=>@kM P c d ⟨e,k⟩⟩:=by simp only[kM,wpOps,rJ]<;>cases aE s g<;>first|rfl|(cases w<;>rfl)
theorem Ny(P:Program)(a:List Bool)(M:Mem)(s:av)(k:av->Mem->Prop):@rO P [] a M ⟨s,k⟩=k s M:=rfl
theorem Nz(P:Program)(a:Option Nat)(op:cH)(b:Bool)(c:List bg)(q:Bool)(d:List Bool)(M:Mem)(s:av)(k:av->Mem->Prop):@rO P (⟨a,op,b,ag⟩::c) (q::d) M ⟨s,k⟩=@cu P q a op b M ⟨s,λf e=>@rO P c d e ⟨f,k⟩⟩:=rfl
theorem Nx(P:Program)(a:Option Nat)(op:cH)(b:Bool)(g:Nat)(w:Bool)(c:List bg)(q:Bool)(d:List Bool)(M:Mem)(s:av)(k:av->Mem->Prop):@rO P (⟨a,op,b,I (g,w)⟩::c) (q::d) M ⟨s,k⟩=@rJ P q g w a op b (aE s g) M ⟨s,λf e=>@rO P c d e ⟨f,k⟩⟩:=by simp only[rO,qj,f8,rJ]<;>cases aE s g<;>first|rfl|(cases w<;>rfl)
theorem M8(P:Program)(a:List (Option (List Nat)))(n:Nat)(M:Mem)(H:List (Nat×(Mem->Prop)))(s:av)(k:av->Mem->Prop):@rG P [] a n M ⟨H,s,k⟩=k s M:=rfl
theorem M9(P:Program)(a:Option Nat)(op:cH)(b:Bool)(d:List bg)(c:List (Option (List Nat)))(n:Nat)(M:Mem)(H:List (Nat×(Mem->Prop)))(s:av)(k:av->Mem->Prop):@rG P (⟨a,op,b,ag⟩::d) (ag::c) n M ⟨H,s,k⟩=
 @cu P U a op b M ⟨s,λe f=>@rG P d c (n+1) f ⟨(n,e_ P ⟨a,op,b,ag⟩ s (m2 e a))::H,e,k⟩⟩:=rfl
theorem M_(P:Program)(b:Option Nat)(op:cH)(d:Bool)(e:List bg)(l:List Nat)(c:List (Option (List Nat)))(n:Nat)(M:Mem)(H:List (Nat×(Mem->Prop)))(s:av)(k:av->Mem->Prop):@rG P (⟨b,op,d,ag⟩::e) (I l::c) n M ⟨H,s,k⟩=
 @cu P ad b op d M ⟨s,λf a=>i6 H l a/\@rG P e c (n+1) a ⟨H,f,k⟩⟩:=rfl
def rM(P:Program)(z:List V)(n c:Nat)(b:List bg)(a:List (Option (List Nat)))(q:Nat)(M:Mem)[h:yE]:Prop:=ll P z n c b a q h.H h.s M h.k
def yH(b:Bool)(P:Program)(z:List V)(n c:Nat)(o:bg)(e:List bg)(l:List Nat)(d:List (Option (List Nat)))(q:Nat)(M:Mem)[h:yE]:Prop:=match b with
 |true=>i6 h.H l (M.set n (.box z))/\j6 P e d (q+1) h.H (a4 h.s o.dst (.ptr n 0)) (M.set n (.box z)) h.k
 |false=>
  match o.op with
  |.call f args=>yx P f (d5 h.s args) M n (.box z) (λv a=>i4 h.s o.dst o.sm v (λg=>i6 h.H l a/\ll P z n c e d (q+1) h.H g a h.k))
  |_=>False
theorem Nq(P:Program)(z:List V)(n c:Nat)(a:Option Nat)(op:cH)(b:Bool)(e:List bg)(d:List (Option (List Nat)))(q:Nat)(M:Mem)(H:List (Nat×(Mem->Prop)))(s:av)(k:av->Mem->Prop):@rM P z n c (⟨a,op,b,ag⟩::e) (ag::d) q M ⟨H,s,k⟩=
 @cu P U a op b M ⟨s,λf g=>@rM P z n c e d (q+1) g ⟨(q,e_ P ⟨a,op,b,ag⟩ s (m2 f a))::H,f,k⟩⟩:=rfl
theorem Nr(P:Program)(z:List V)(n c:Nat)(o:bg)(d:List bg)(l:List Nat)(b:List (Option (List Nat)))(q:Nat)(M:Mem)(H:List (Nat×(Mem->Prop)))(s:av)(k:av->Mem->Prop):@rM P z n c (o::d) (I l::b) q M ⟨H,s,k⟩=@yH (q==c) P z n c o d l b q M ⟨H,s,k⟩:=by
 cases h:(q==c) with
 |true=>
  have a:dG q c=U:=by rw[eq_of_beq h];exact Nat.beq_refl c
  simp only[rM,ll,a];rfl
 |false=>
  have a:dG q c=ad:=by
   cases e:dG q c with
   |false=>rfl
   |true=>rw[l2 e,beq_self_eq_true] at h;cases h
  simp only[rM,ll,a];rfl
theorem Np(P:Program)(z:List V)(n c:Nat)(o:bg)(b:List bg)(l:List Nat)(a:List (Option (List Nat)))(q:Nat)(M:Mem)(H:List (Nat×(Mem->Prop)))(s:av)(k:av->Mem->Prop):@yH U P z n c o b l a q M ⟨H,s,k⟩=(i6 H l (M.set n (.box z))/\@rG P b a (q+1) (M.set n (.box z)) ⟨H,a4 s o.dst (.ptr n 0),k⟩):=rfl
theorem No(P:Program)(z:List V)(n c:Nat)(d:Option Nat)(f:Nat)(args:List aA)(g:Option (Nat×Bool))(e:List bg)(l:List Nat)(b:List (Option (List Nat)))(q:Nat)(M:Mem)(H:List (Nat×(Mem->Prop)))(s:av)(k:av->Mem->Prop):@yH ad P z n c ⟨d,.call f args,ad,g⟩ e l b q M ⟨H,s,k⟩=
 @Ck P f (d5 s args) M n z ⟨λv a=>i6 H l a/\@rM P z n c e b (q+1) a ⟨H,a4 s d v,k⟩⟩:=rfl
theorem abg(H:List (Nat×(Mem->Prop)))(M:Mem):i6 H [] M=True:=rfl
theorem abf(H:List (Nat×(Mem->Prop)))(j:Nat)(a:List Nat)(M:Mem):i6 H (j::a) M=(k6 H j M/\i6 H a M):=rfl
class Nj where
 p:Mem->Prop
 H:List (Nat×(Mem->Prop))
def Az(b:Bool)(j:Nat)(M:Mem)[h:Nj]:Prop:=match b with
 |true=>h.p M
 |false=>k6 h.H j M
theorem Y0(i:Nat)(p:Mem->Prop)(H:List (Nat×(Mem->Prop)))(j:Nat)(M:Mem):k6 ((i,p)::H) j M=@Az (i==j) j M ⟨p,H⟩:=by
 show(match dG i j with|true=>p M|false=>k6 H j M)=_;cases h:dG i j with
 |true=>
  have:(i==j)=U:=by rw[l2 h];exact beq_self_eq_true j
  rw[this];rfl
 |false=>have:(i==j)=ad:=beq_false_of_ne (Nat.ne_of_beq_eq_false h);rw[this];rfl
theorem YZ(j:Nat)(M:Mem)(p:Mem->Prop)(H:List (Nat×(Mem->Prop))):@Az U j M ⟨p,H⟩=p M:=rfl
theorem YY(j:Nat)(M:Mem)(p:Mem->Prop)(H:List (Nat×(Mem->Prop))):@Az ad j M ⟨p,H⟩=k6 H j M:=rfl
theorem Te(s:av)(d:Nat):m2 s (I d)=aE s d:=rfl
section
variable(P:Program)(q:Bool)(d:Option Nat)(M:Mem)(s:av)(k:av->Mem->Prop)
theorem NQ(f:Nat)(l:List aA):@cu P ad d (.call f l) ad M ⟨s,k⟩=@nA P f (d5 s l) M ⟨λv a=>k (a4 s d v) a⟩:=rfl
theorem NR(f:Nat)(l:List aA):@cu P ad d (.call f l) U M ⟨s,k⟩=@nA P f (d5 s l) M ⟨λv a=>@gB (I v) ⟨λb=>k (a4 s d (.bool b)) a⟩⟩:=rfl
theorem NS(f:Nat)(l:List aA):@cu P U d (.call f l) ad M ⟨s,k⟩=@s9 P f (d5 s l) M ⟨λv a=>k (a4 s d v) a⟩:=rfl
theorem NT(f:Nat)(l:List aA):@cu P U d (.call f l) U M ⟨s,k⟩=@s9 P f (d5 s l) M ⟨λv a=>@gB (I v) ⟨λb=>k (a4 s d (.bool b)) a⟩⟩:=rfl
theorem NU(x:aA)(l:List aA):@cu P q d (.fM x l) ad M ⟨s,k⟩=@s_ P q (aw s x) (d5 s l) M ⟨λv a=>k (a4 s d v) a⟩:=rfl
theorem NV(x:aA)(l:List aA):@cu P q d (.fM x l) U M ⟨s,k⟩=@s_ P q (aw s x) (d5 s l) M ⟨λv a=>@gB (I v) ⟨λb=>k (a4 s d (.bool b)) a⟩⟩:=rfl
theorem OJ(x:aA)(b:Bool):@cu P q d (.n2 x) b M ⟨s,k⟩=@Cv (aw s x) M ⟨λv a=>k (a4 s d v) a⟩:=rfl
theorem OM(n b:Bool)(x y:aA):@cu P q d (.lO n x y) b M ⟨s,k⟩=@yL n (aw s x) (aw s y) M ⟨λv a=>k (a4 s d v) a⟩:=rfl
theorem OF(x:aA):@cu P q d (.gG x) ad M ⟨s,k⟩=@g2 (I (aw s x)) ⟨λv=>k (a4 s d v) M⟩:=rfl
theorem OG(x:aA):@cu P q d (.gG x) U M ⟨s,k⟩=@gB (I (aw s x)) ⟨λb=>k (a4 s d (.bool b)) M⟩:=rfl
theorem ON(c:aA)(a:aA)(b:aA):@cu P q d (.pick c a b) ad M ⟨s,k⟩=@g2 (q8 (aw s c) (aw s a) (aw s b)) ⟨λv=>k (a4 s d v) M⟩:=rfl
theorem OO(c:aA)(a:aA)(b:aA):@cu P q d (.pick c a b) U M ⟨s,k⟩=@gB (q8 (aw s c) (aw s a) (aw s b)) ⟨λb=>k (a4 s d (.bool b)) M⟩:=rfl
theorem NJ(zero:List V)(dp:List (Nat×Nat×aA)):@cu P q d (.build zero dp) ad M ⟨s,k⟩=@g2 (r1 zero (iB s dp)) ⟨λv=>k (a4 s d v) M⟩:=rfl
theorem NK(zero:List V)(dp:List (Nat×Nat×aA)):@cu P q d (.build zero dp) U M ⟨s,k⟩=@gB (r1 zero (iB s dp)) ⟨λb=>k (a4 s d (.bool b)) M⟩:=rfl
theorem NL(zero:List V)(a:Nat)(len:Nat)(dp:List (Nat×Nat×aA)):@cu P q d (.buildSlice zero a len dp) ad M ⟨s,k⟩=@g2 (r0 zero a len (iB s dp)) ⟨λv=>k (a4 s d v) M⟩:=rfl
theorem NM(zero:List V)(a:Nat)(len:Nat)(dp:List (Nat×Nat×aA)):@cu P q d (.buildSlice zero a len dp) U M ⟨s,k⟩=@gB (r0 zero a len (iB s dp)) ⟨λb=>k (a4 s d (.bool b)) M⟩:=rfl
theorem Oo(n:Nat)(b:Bool)(a:aA):@cu P q d (.load n b a) ad M ⟨s,k⟩=@g2 (dZ n b (aw s a) M) ⟨λv=>k (a4 s d v) M⟩:=rfl
theorem Oq(n:Nat)(c:Bool)(a:aA):@cu P q d (.load n c a) U M ⟨s,k⟩=@gB (dZ n c (aw s a) M) ⟨λb=>k (a4 s d (.bool b)) M⟩:=rfl
theorem OK(x:aA):@cu P q d (.nilCheck x) ad M ⟨s,k⟩=@g2 (kx (aw s x)) ⟨λv=>k (a4 s d v) M⟩:=rfl
theorem OL(x:aA):@cu P q d (.nilCheck x) U M ⟨s,k⟩=@gB (kx (aw s x)) ⟨λb=>k (a4 s d (.bool b)) M⟩:=rfl
theorem NG(op:BinOp)(a:hB)(x:aA)(y:aA):@cu P q d (.cp op a x y) ad M ⟨s,k⟩=@g2 (cT op a (aw s x) (aw s y)) ⟨λv=>k (a4 s d v) M⟩:=rfl
theorem NH(op:BinOp)(a:hB)(x:aA)(y:aA):@cu P q d (.cp op a x y) U M ⟨s,k⟩=@gB (cT op a (aw s x) (aw s y)) ⟨λb=>k (a4 s d (.bool b)) M⟩:=rfl
theorem OW(op:UnOp)(x:aA):@cu P q d (.un op x) ad M ⟨s,k⟩=@g2 (rq op (aw s x)) ⟨λv=>k (a4 s d v) M⟩:=rfl
theorem OX(op:UnOp)(x:aA):@cu P q d (.un op x) U M ⟨s,k⟩=@gB (rq op (aw s x)) ⟨λb=>k (a4 s d (.bool b)) M⟩:=rfl
theorem NW(a:IntKind)(x:aA):@cu P q d (.conv a x) ad M ⟨s,k⟩=@g2 (qA a (aw s x)) ⟨λv=>k (a4 s d v) M⟩:=rfl
theorem NX(a:IntKind)(x:aA):@cu P q d (.conv a x) U M ⟨s,k⟩=@gB (qA a (aw s x)) ⟨λb=>k (a4 s d (.bool b)) M⟩:=rfl
theorem NY(x:aA):@cu P q d (.pD x) ad M ⟨s,k⟩=@g2 (tC (aw s x)) ⟨λv=>k (a4 s d v) M⟩:=rfl
theorem NZ(x:aA):@cu P q d (.pD x) U M ⟨s,k⟩=@gB (tC (aw s x)) ⟨λb=>k (a4 s d (.bool b)) M⟩:=rfl
theorem NO(x:aA):@cu P q d (.nN x) ad M ⟨s,k⟩=@g2 (oG (aw s x) M) ⟨λv=>k (a4 s d v) M⟩:=rfl
theorem NP(x:aA):@cu P q d (.nN x) U M ⟨s,k⟩=@gB (oG (aw s x) M) ⟨λb=>k (a4 s d (.bool b)) M⟩:=rfl
theorem OD(f:Nat)(a:List aA):@cu P q d (.jQ f a) ad M ⟨s,k⟩=@g2 (I (sy f (d5 s a))) ⟨λv=>k (a4 s d v) M⟩:=rfl
theorem OE(f:Nat)(a:List aA):@cu P q d (.jQ f a) U M ⟨s,k⟩=@gB (I (sy f (d5 s a))) ⟨λb=>k (a4 s d (.bool b)) M⟩:=rfl
theorem OQ(e:Nat)(x:aA)(b:Option aA)(a:Option aA)(c:Option aA):@cu P q d (.slice e x b a c) ad M ⟨s,k⟩=@g2 (eQ e (aw s x) (dO s b) (dO s a) (dO s c) M) ⟨λv=>k (a4 s d v) M⟩:=rfl
theorem OR(f:Nat)(x:aA)(c:Option aA)(a:Option aA)(e:Option aA):@cu P q d (.slice f x c a e) U M ⟨s,k⟩=@gB (eQ f (aw s x) (dO s c) (dO s a) (dO s e) M) ⟨λb=>k (a4 s d (.bool b)) M⟩:=rfl
theorem OT(x:aA)(b:Option aA)(a:Option aA):@cu P q d (.qe x b a) ad M ⟨s,k⟩=@g2 (ul (aw s x) (dO s b) (dO s a)) ⟨λv=>k (a4 s d v) M⟩:=rfl
theorem OU(x:aA)(c:Option aA)(a:Option aA):@cu P q d (.qe x c a) U M ⟨s,k⟩=@gB (ul (aw s x) (dO s c) (dO s a)) ⟨λb=>k (a4 s d (.bool b)) M⟩:=rfl
theorem N6(off:Nat)(x:aA):@cu P q d (.fieldAddr off x) ad M ⟨s,k⟩=@g2 (iF off (aw s x)) ⟨λv=>k (a4 s d v) M⟩:=rfl
theorem N7(off:Nat)(x:aA):@cu P q d (.fieldAddr off x) U M ⟨s,k⟩=@gB (iF off (aw s x)) ⟨λb=>k (a4 s d (.bool b)) M⟩:=rfl
theorem N5(off:Nat)(n:Nat)(a:Bool)(x:aA):@cu P q d (.field off n a x) ad M ⟨s,k⟩=@g2 (se off n a (aw s x)) ⟨λv=>k (a4 s d v) M⟩:=rfl
theorem N8(off:Nat)(n:Nat)(a:Bool)(x:aA):@cu P q d (.field off n a x) U M ⟨s,k⟩=@gB (se off n a (aw s x)) ⟨λb=>k (a4 s d (.bool b)) M⟩:=rfl
theorem Oa(len:Nat)(a:Nat)(x:aA)(i:aA):@cu P q d (.eM len a x i) ad M ⟨s,k⟩=@g2 (mo len a (aw s x) (aw s i)) ⟨λv=>k (a4 s d v) M⟩:=rfl
theorem Ob(len:Nat)(a:Nat)(x:aA)(i:aA):@cu P q d (.eM len a x i) U M ⟨s,k⟩=@gB (mo len a (aw s x) (aw s i)) ⟨λb=>k (a4 s d (.bool b)) M⟩:=rfl
theorem Oc(a:Nat)(x:aA)(i:aA):@cu P q d (.gq a x i) ad M ⟨s,k⟩=@g2 (d8 a (aw s x) (aw s i) M) ⟨λv=>k (a4 s d v) M⟩:=rfl
theorem Od(a:Nat)(x:aA)(i:aA):@cu P q d (.gq a x i) U M ⟨s,k⟩=@gB (d8 a (aw s x) (aw s i) M) ⟨λb=>k (a4 s d (.bool b)) M⟩:=rfl
theorem Oe(x:aA)(i:aA):@cu P q d (.mq x i) ad M ⟨s,k⟩=@g2 (qN (aw s x) (aw s i)) ⟨λv=>k (a4 s d v) M⟩:=rfl
theorem Of(x:aA)(i:aA):@cu P q d (.mq x i) U M ⟨s,k⟩=@gB (qN (aw s x) (aw s i)) ⟨λb=>k (a4 s d (.bool b)) M⟩:=rfl
theorem N9(len:Nat)(b:Nat)(a:Bool)(x:aA)(i:aA):@cu P q d (.oP len b a x i) ad M ⟨s,k⟩=@g2 (tT len b a (aw s x) (aw s i)) ⟨λv=>k (a4 s d v) M⟩:=rfl
theorem N_(len:Nat)(c:Nat)(a:Bool)(x:aA)(i:aA):@cu P q d (.oP len c a x i) U M ⟨s,k⟩=@gB (tT len c a (aw s x) (aw s i)) ⟨λb=>k (a4 s d (.bool b)) M⟩:=rfl
theorem Oj(x:aA):@cu P q d (.nX x) ad M ⟨s,k⟩=@g2 (eY (aw s x) M) ⟨λv=>k (a4 s d v) M⟩:=rfl
theorem Ol(x:aA):@cu P q d (.nX x) U M ⟨s,k⟩=@gB (eY (aw s x) M) ⟨λb=>k (a4 s d (.bool b)) M⟩:=rfl
theorem Om(x:aA):@cu P q d (.k4 x) ad M ⟨s,k⟩=@g2 (sp (aw s x)) ⟨λv=>k (a4 s d v) M⟩:=rfl
theorem On(x:aA):@cu P q d (.k4 x) U M ⟨s,k⟩=@gB (sp (aw s x)) ⟨λb=>k (a4 s d (.bool b)) M⟩:=rfl
theorem Og(n:Nat):@cu P q d (.pY n) ad M ⟨s,k⟩=@g2 (I (.int .i64 n)) ⟨λv=>k (a4 s d v) M⟩:=rfl
theorem Oh(n:Nat):@cu P q d (.pY n) U M ⟨s,k⟩=@gB (I (.int .i64 n)) ⟨λb=>k (a4 s d (.bool b)) M⟩:=rfl
theorem OB(a:Bool)(x:aA)(y:aA):@cu P q d (.k7 a x y) ad M ⟨s,k⟩=@g2 (oU a (aw s x) (aw s y)) ⟨λv=>k (a4 s d v) M⟩:=rfl
theorem OC(a:Bool)(x:aA)(y:aA):@cu P q d (.k7 a x y) U M ⟨s,k⟩=@gB (oU a (aw s x) (aw s y)) ⟨λb=>k (a4 s d (.bool b)) M⟩:=rfl
theorem N3(x:aA)(i:Nat):@cu P q d (.extract x i) ad M ⟨s,k⟩=@g2 (sc (aw s x) i) ⟨λv=>k (a4 s d v) M⟩:=rfl
theorem N4(x:aA)(i:Nat):@cu P q d (.extract x i) U M ⟨s,k⟩=@gB (sc (aw s x) i) ⟨λb=>k (a4 s d (.bool b)) M⟩:=rfl
theorem Ou(c:en)(zero:List V)(a:Bool)(ok:Bool)(m:aA)(b:aA):@cu P q d (.lookup c zero a ok m b) ad M ⟨s,k⟩=@g2 (lJ c zero a ok (aw s m) (aw s b) M) ⟨λv=>k (a4 s d v) M⟩:=rfl
theorem Ov(c:en)(zero:List V)(a:Bool)(ok:Bool)(m:aA)(e:aA):@cu P q d (.lookup c zero a ok m e) U M ⟨s,k⟩=@gB (lJ c zero a ok (aw s m) (aw s e) M) ⟨λb=>k (a4 s d (.bool b)) M⟩:=rfl
theorem OI(c:Bool)(a:Nat):@cu P q d (.lL a) c M ⟨s,k⟩=@iP (t9 a M) ⟨λv b=>k (a4 s d v) b⟩:=rfl
theorem NE(b:Bool)(zero:List V):@cu P q d (.alloc zero) b M ⟨s,k⟩=@iP (wx zero M) ⟨λv a=>k (a4 s d v) a⟩:=rfl
theorem NI(b:Bool)(n:Nat)(x:aA):@cu P q d (.box n x) b M ⟨s,k⟩=@iP (uR n (aw s x) M) ⟨λv a=>k (a4 s d v) a⟩:=rfl
theorem OV(c:Bool)(n:Nat)(a:aA)(x:aA):@cu P q d (.store n a x) c M ⟨s,k⟩=@iP (qf n (aw s a) (aw s x) M) ⟨λv b=>k (a4 s d v) b⟩:=rfl
theorem Ox(e:Bool)(zero:List V)(a:Nat)(bytes:Nat)(l:aA)(c:aA):@cu P q d (.makeSlice zero a bytes l c) e M ⟨s,k⟩=@iP (jq zero a bytes (aw s l) (aw s c) M) ⟨λv b=>k (a4 s d v) b⟩:=rfl
theorem NN(b:Bool)(zero:List V)(len:Nat)(dp:List (Nat×Nat×aA)):@cu P q d (.mf zero len dp) b M ⟨s,k⟩=@iP (oF zero len (iB s dp) M) ⟨λv a=>k (a4 s d v) a⟩:=rfl
theorem Oy(b:Bool)(zero:V)(bytes:Nat)(l:aA)(c:aA):@cu P q d (.oT zero bytes l c) b M ⟨s,k⟩=@iP (t1 zero bytes (aw s l) (aw s c) M) ⟨λv a=>k (a4 s d v) a⟩:=rfl
theorem NF(e:Bool)(imm:Bool)(b:Nat)(bytes:Nat)(a:aA)(x:aA):@cu P q d (.append imm b bytes a x) e M ⟨s,k⟩=@iP (cw imm b bytes (aw s a) (aw s x) M) ⟨λv c=>k (a4 s d v) c⟩:=rfl
theorem Ow(b:Bool)(r:Option aA):@cu P q d (.makeMap r) b M ⟨s,k⟩=@iP (sw (dO s r) M) ⟨λv a=>k (a4 s d v) a⟩:=rfl
theorem OA(e:Bool)(c:en)(m:aA)(a:aA)(x:aA):@cu P q d (.mapUpdate c m a x) e M ⟨s,k⟩=@iP (t2 c (aw s m) (aw s a) (aw s x) M) ⟨λv b=>k (a4 s d v) b⟩:=rfl
theorem Oz(e:Bool)(c:en)(z:V)(m:aA)(a:aA):@cu P q d (.mapEntry c z m a) e M ⟨s,k⟩=@iP (p1 c z (aw s m) (aw s a) M) ⟨λv b=>k (a4 s d v) b⟩:=rfl
theorem N2(b:Bool)(m:aA)(st:aA)(x:aA):@cu P q d (.entryStore m st x) b M ⟨s,k⟩=@iP (r6 (aw s m) (aw s st) (aw s x) M) ⟨λv a=>k (a4 s d v) a⟩:=rfl
theorem N0(e:Bool)(b:Nat)(a:aA)(x:aA):@cu P q d (.copy b a x) e M ⟨s,k⟩=@iP (kr b (aw s a) (aw s x) M) ⟨λv c=>k (a4 s d v) c⟩:=rfl
theorem Ot(b:Bool)(x:aA):@cu P q d (.nY x) b M ⟨s,k⟩=@iP (qW (aw s x) M) ⟨λv a=>k (a4 s d v) a⟩:=rfl
theorem OH(b:Bool)(x:aA):@cu P q d (.nf x) b M ⟨s,k⟩=@iP (kg (aw s x) M) ⟨λv a=>k (a4 s d v) a⟩:=rfl
theorem OS(c:Bool)(a:Nat)(x:aA)(h:aA)(m:aA):@cu P q d (.qd a x h m) c M ⟨s,k⟩=@iP (sM a (aw s x) (aw s h) (aw s m) M) ⟨λv b=>k (a4 s d v) b⟩:=rfl
theorem OP(b:Bool)(x:aA):@cu P q d (.p8 x) b M ⟨s,k⟩=@iP (vP (aw s x) M) ⟨λv a=>k (a4 s d v) a⟩:=rfl
theorem N1(b:Bool)(x:aA):@cu P q d (.pH x) b M ⟨s,k⟩=@iP (tH (aw s x) M) ⟨λv a=>k (a4 s d v) a⟩:=rfl
theorem Oi(b:Bool)(x:aA):@cu P q d (.pZ x) b M ⟨s,k⟩=@iP (vy (aw s x) M) ⟨λv a=>k (a4 s d v) a⟩:=rfl
end
section
variable(P:Program)(d:Option Nat)(b:Bool)(g:Option (Nat×Bool))(s:av)(v:V)(M:Mem)
theorem PH(f:Nat)(l:List aA):e_ P ⟨d,.call f l,b,g⟩ s v M=Ci P f (d5 s l) b v M:=rfl
theorem PY(x:aA):e_ P ⟨d,.gG x,b,g⟩ s v M=(I (aw s x)=I v):=rfl
theorem P0(c:aA)(a:aA)(e:aA):e_ P ⟨d,.pick c a e,b,g⟩ s v M=(q8 (aw s c) (aw s a) (aw s e)=I v):=rfl
theorem PE(zero:List V)(dp:List (Nat×Nat×aA)):e_ P ⟨d,.build zero dp,b,g⟩ s v M=(r1 zero (iB s dp)=I v):=rfl
theorem PF(zero:List V)(a:Nat)(len:Nat)(dp:List (Nat×Nat×aA)):e_ P ⟨d,.buildSlice zero a len dp,b,g⟩ s v M=(r0 zero a len (iB s dp)=I v):=rfl
theorem PU(n:Nat)(c:Bool)(a:aA):e_ P ⟨d,.load n c a,b,g⟩ s v M=(dZ n c (aw s a) M=I v):=rfl
theorem PZ(x:aA):e_ P ⟨d,.nilCheck x,b,g⟩ s v M=(kx (aw s x)=I v):=rfl
theorem PD(op:BinOp)(a:hB)(x:aA)(y:aA):e_ P ⟨d,.cp op a x y,b,g⟩ s v M=(cT op a (aw s x) (aw s y)=I v):=rfl
theorem P3(op:UnOp)(x:aA):e_ P ⟨d,.un op x,b,g⟩ s v M=(rq op (aw s x)=I v):=rfl
theorem PI(a:IntKind)(x:aA):e_ P ⟨d,.conv a x,b,g⟩ s v M=(qA a (aw s x)=I v):=rfl
theorem PJ(x:aA):e_ P ⟨d,.pD x,b,g⟩ s v M=(tC (aw s x)=I v):=rfl
theorem PG(x:aA):e_ P ⟨d,.nN x,b,g⟩ s v M=(oG (aw s x) M=I v):=rfl
theorem PX(f:Nat)(a:List aA):e_ P ⟨d,.jQ f a,b,g⟩ s v M=(I (sy f (d5 s a))=I v):=rfl
theorem P1(f:Nat)(x:aA)(c:Option aA)(a:Option aA)(e:Option aA):e_ P ⟨d,.slice f x c a e,b,g⟩ s v M=(eQ f (aw s x) (dO s c) (dO s a) (dO s e) M=I v):=rfl
theorem P2(x:aA)(c:Option aA)(a:Option aA):e_ P ⟨d,.qe x c a,b,g⟩ s v M=(ul (aw s x) (dO s c) (dO s a)=I v):=rfl
theorem PM(off:Nat)(x:aA):e_ P ⟨d,.fieldAddr off x,b,g⟩ s v M=(iF off (aw s x)=I v):=rfl
theorem PL(off:Nat)(n:Nat)(a:Bool)(x:aA):e_ P ⟨d,.field off n a x,b,g⟩ s v M=(se off n a (aw s x)=I v):=rfl
theorem PO(len:Nat)(a:Nat)(x:aA)(i:aA):e_ P ⟨d,.eM len a x i,b,g⟩ s v M=(mo len a (aw s x) (aw s i)=I v):=rfl
theorem PP(a:Nat)(x:aA)(i:aA):e_ P ⟨d,.gq a x i,b,g⟩ s v M=(d8 a (aw s x) (aw s i) M=I v):=rfl
theorem PQ(x:aA)(i:aA):e_ P ⟨d,.mq x i,b,g⟩ s v M=(qN (aw s x) (aw s i)=I v):=rfl
theorem PN(len:Nat)(c:Nat)(a:Bool)(x:aA)(i:aA):e_ P ⟨d,.oP len c a x i,b,g⟩ s v M=(tT len c a (aw s x) (aw s i)=I v):=rfl
theorem PS(x:aA):e_ P ⟨d,.nX x,b,g⟩ s v M=(eY (aw s x) M=I v):=rfl
theorem PT(x:aA):e_ P ⟨d,.k4 x,b,g⟩ s v M=(sp (aw s x)=I v):=rfl
theorem PR(n:Nat):e_ P ⟨d,.pY n,b,g⟩ s v M=(I (.int .i64 n)=I v):=rfl
theorem PW(a:Bool)(x:aA)(y:aA):e_ P ⟨d,.k7 a x y,b,g⟩ s v M=(oU a (aw s x) (aw s y)=I v):=rfl
theorem PK(x:aA)(i:Nat):e_ P ⟨d,.extract x i,b,g⟩ s v M=(sc (aw s x) i=I v):=rfl
theorem PV(c:en)(zero:List V)(a:Bool)(ok:Bool)(m:aA)(e:aA):e_ P ⟨d,.lookup c zero a ok m e,b,g⟩ s v M=(lJ c zero a ok (aw s m) (aw s e) M=I v):=rfl
end
attribute [go_sem↓high] acu aei uh Zz Uy OZ O0 OY Ny Nz Nx M8 M9 M_ NQ NR NS NT NU NV OJ OM OF OG ON OO NJ NK NL NM Oo Oq OK OL NG NH OW OX NW NX NY NZ NO NP OD OE OQ OR OT OU N6 N7 N5 N8 Oa Ob Oc Od Oe Of N9 N_ Oj Ol Om On Og Oh OB OC N3 N4 Ou Ov OI NE NI OV Ox NN Oy NF Ow OA Oz N2 N0 Ot OH OS OP N1 Oi acQ acP acX acW acV TL TK TH TG TE TD TJ TI Nq Nr abg abf Y0 Te PH PY P0 PE PF PU PZ PD P3 PI PJ PG PX P1 P2 PM PL PO PP PQ PN PS PT PR PW PK PV
attribute [go_sem] Nat.reduceAdd Nat.reduceMul Nat.reduceSub Nat.reduceBEq Nat.reduceLeDiff Nat.reduceLT
attribute [go_sem] Np No YZ YY MY Ng Nd Nf act acs
abbrev aa(n:Int):V:=.int .i64 n
abbrev v0:V:=.int .i64 0
abbrev adS:V:=.bool U
abbrev eR:V:=.bool ad
abbrev g9:V:=.slice [] .nil
abbrev ai(n:Nat):aA:=.tmp n
abbrev f9(n:Int):aA:=.const (.int .i64 n)
abbrev jA:aA:=.const (.bool U)
abbrev mK:aA:=.const (.bool ad)
abbrev dF:aA:=.const (.slice [] .nil)
abbrev af:Bool:=U
abbrev dY:Bool:=ad
abbrev dc(d:Nat)(o:cH):bg:=⟨I d,o,ad,ag⟩
abbrev ie(d:Nat)(o:cH):bg:=⟨I d,o,U,ag⟩
abbrev q3(o:cH):bg:=⟨ag,o,ad,ag⟩
abbrev lG(n:Nat)(o:bg):bg:=⟨o.dst,o.op,o.sm,I (n,ad)⟩
abbrev f5(n:Nat)(o:bg):bg:=⟨o.dst,o.op,o.sm,I (n,U)⟩
abbrev a5(d a:Nat):bg:=⟨I d,.gG (.tmp a),ad,ag⟩
abbrev o2(d a:Nat):bg:=⟨I d,.gG (.tmp a),U,ag⟩
abbrev ca(d:Nat)(n:Int):bg:=⟨I d,.gG (.const (.int .i64 n)),ad,ag⟩
abbrev xF(d:Nat)(x:aA):bg:=⟨I d,.gG x,ad,ag⟩
abbrev AY(d:Nat)(x:aA):bg:=⟨I d,.gG x,U,ag⟩
abbrev cQ(d f a:Nat):bg:=⟨I d,.fieldAddr f (.tmp a),ad,ag⟩
abbrev dy(d a:Nat):bg:=⟨I d,.load 1 ad (.tmp a),ad,ag⟩
abbrev m8(d a:Nat):bg:=⟨I d,.load 1 ad (.tmp a),U,ag⟩
abbrev hK(d n a:Nat):bg:=⟨I d,.load n U (.tmp a),ad,ag⟩
abbrev i1(d z a i:Nat):bg:=⟨I d,.gq z (.tmp a) (.tmp i),ad,ag⟩
abbrev q2(d:Nat)(o:BinOp)(a b:Nat):bg:=⟨I d,.cp o .none (.tmp a) (.tmp b),ad,ag⟩
abbrev o0(d:Nat)(o:BinOp)(a b:Nat):bg:=⟨I d,.cp o .none (.tmp a) (.tmp b),U,ag⟩
abbrev iH(d:Nat)(o:BinOp)(a:Nat)(n:Int):bg:=⟨I d,.cp o .none (.tmp a) (.const (.int .i64 n)),ad,ag⟩
abbrev sB(d:Nat)(o:BinOp)(a:Nat)(n:Int):bg:=⟨I d,.cp o .none (.tmp a) (.const (.int .i64 n)),U,ag⟩
abbrev lM(d a:Nat):bg:=⟨I d,.nX (.tmp a),ad,ag⟩
abbrev j2(d a:Nat):bg:=⟨I d,.nilCheck (.tmp a),ad,ag⟩
abbrev q4(d n a:Nat):bg:=⟨I d,.box n (.tmp a),ad,ag⟩
abbrev JS(d a:Nat):bg:=⟨I d,.un .not (.tmp a),U,ag⟩
abbrev j3(d a i:Nat):bg:=⟨I d,.extract (.tmp a) i,ad,ag⟩
abbrev o1(d a i:Nat):bg:=⟨I d,.extract (.tmp a) i,U,ag⟩
abbrev JR(d a b:Nat):bg:=⟨I d,.pick (.tmp a) (.const (.bool U)) (.tmp b),U,ag⟩
abbrev xE(d a b:Nat):bg:=⟨I d,.pick (.tmp a) (.tmp b) (.const (.bool ad)),U,ag⟩
abbrev k_(d:Nat)(z:List V):bg:=⟨I d,.alloc z,ad,ag⟩
abbrev i0(d f:Nat)(l:List aA):bg:=⟨I d,.call f l,ad,ag⟩
abbrev ei(d z b a x:Nat):bg:=⟨I d,.append ad z b (.tmp a) (.tmp x),ad,ag⟩
abbrev jR(n a x:Nat):bg:=⟨ag,.store n (.tmp a) (.tmp x),ad,ag⟩
abbrev bS(o:List bg)(l:List Nat):bu:=.region o l
abbrev tU(o:List bg)(q:List Bool)(l:List Nat):bu:=.mixed o q l
abbrev am(a b:bu):bu:=.seq a b
abbrev b_(a b c:bu):bu:=.seq a (.seq b c)
abbrev dj(a b c d:bu):bu:=.seq a (.seq b (.seq c d))
abbrev el(a b c d e:bu):bu:=.seq a (.seq b (.seq c (.seq d e)))
abbrev gr(a b c d e f:bu):bu:=.seq a (.seq b (.seq c (.seq d (.seq e f))))
abbrev nW(a b c d e f g:bu):bu:=.seq a (.seq b (.seq c (.seq d (.seq e (.seq f g)))))
abbrev fx(a b c d e f g h:bu):bu:=.seq a (.seq b (.seq c (.seq d (.seq e (.seq f (.seq g h))))))
abbrev bM(c:Nat)(a b:bu):bu:=.cond (.tmp c) a b
abbrev cm(i:Nat)(a:bu):bu:=.block i a
abbrev eN(l:List Nat)(a:bu):bu:=.loop l a
abbrev bd:bu:=.skip
abbrev dM(i:Nat):bu:=.exit i
abbrev aP:bu:=.ret
abbrev iG:Option (List Nat):=ag
inductive kn where
 |m (a:Nat)|fX (a:Nat)|w (v:Nat)|b9 (v:Nat)|i (v:Nat) (k:Int)|t (v:Nat)|u (v:Nat)|F (k:Nat) (a:Nat)|f (k:Nat)|dH (k:Nat) (a:Nat)|hV (k:Nat)|A (k:Nat) (a:Nat)|a (k:Nat)|L|P (a:Nat) (k:Nat)|H (k:Nat) (a:Nat)|h (k:Nat)|bt (z:Nat)|x (z:Nat) (i:Nat)|D (z:Nat) (a:Nat)|s (k:Nat)|S (k:Nat) (a:Nat)|o (k:Nat)|B (O:BinOp)|a6 (O:BinOp)|d (O:BinOp) (k:Int)|bc (O:BinOp) (k:Int)|N|C|T|e|E|eL (f:Nat)|c1 (f:Nat)|c2 (f:Nat)|c3 (f:Nat)|bd (f:Nat)|aD (f:Nat)|ba (f:Nat)|bA (f:Nat)|c (f:Nat) (l:List aA)|k (f:Nat) (l:List aA)|O|Y|j (v:Nat)|g (Q:cH)|jN (Q:cH)|p (Px:aA->cH)|sD (Px:aA->cH)|q (W:aA->aA->cH)|dA (W:aA->aA->cH)|G (Q:cH)|X (v:Nat) (k:Nat) (a:Nat)|W (k:Nat) (v:Nat) (l:List V)|z (v:Nat) (l:List V)|K (k:Nat) (v:Nat) (q:Nat)|y (v:Nat) (q:Nat)|v (a:Nat)|n (k:Int)|V (c:aA)|l (q:Nat) (r:List (Nat×Nat))|M (q k n:Nat) (r:List (Nat×Nat))|Z|r (o:bg)|R (o:bg)
def cr:List (Nat×Bool)->bg->bg
 |[],o=>o
 |x::_,o=>⟨o.dst,o.op,o.sm,I x⟩
def jU:Nat->V
 |1=>v0
 |2=>.str []
 |3=>eR
 |4=>g9
 |5=>.db
 |_=>adS
def kk:Nat->Nat->List V->List V
 |0,_,a=>a
 |_,0,a=>a
 |f+1,n+1,a=>kk f ((n+1)/10) (jU ((n+1)%10)::a)
def kU:List (Nat×Nat)->List aA->List (Nat×Nat×aA)->List (Nat×Nat×aA)
 |(o,n)::l,x::s,a=>kU l s ((o,n,x)::a)
 |_,_,a=>a
def eW:List (Nat×Nat)->List aA->List aA
 |_::l,_::s=>eW l s
 |_,s=>s
def ke:List bg->List (Nat×List Nat)->List (Option (List Nat))
 |_::l,(0,x)::r=>I x::ke l r
 |_::l,(k+1,x)::r=>ag::ke l ((k,x)::r)
 |_::l,[]=>ag::ke l []
 |[],_=>[]
def ce:List kn->Nat->List aA->List (Nat×Bool)->List bg
 |.m a::b,p,s,g=>cr g (dc (p+1) (.gG (ai a)))::ce b (p+1) (ai (p+1)::s) g
 |.fX a::b,p,s,g=>cr g (ie (p+1) (.gG (ai a)))::ce b (p+1) (ai (p+1)::s) g
 |.w v::b,p,x::s,g=>cr g (dc v (.gG x))::ce b p s g
 |.b9 v::b,p,x::s,g=>cr g (ie v (.gG x))::ce b p s g
 |.i v k::b,p,s,g=>cr g (dc v (.gG (f9 k)))::ce b p s g
 |.t v::b,p,s,g=>cr g (ie v (.gG jA))::ce b p s g
 |.u v::b,p,s,g=>cr g (ie v (.gG mK))::ce b p s g
 |.F k a::b,p,s,g=>cr g (dc (p+1) (.fieldAddr k (ai a)))::cr g (dc (p+2) (.load 1 ad (ai (p+1))))::ce b (p+2) (ai (p+2)::s) g
 |.f k::b,p,x::s,g=>cr g (dc (p+1) (.fieldAddr k x))::cr g (dc (p+2) (.load 1 ad (ai (p+1))))::ce b (p+2) (ai (p+2)::s) g
 |.dH k a::b,p,s,g=>cr g (dc (p+1) (.fieldAddr k (ai a)))::cr g (ie (p+2) (.load 1 ad (ai (p+1))))::ce b (p+2) (ai (p+2)::s) g
 |.hV k::b,p,x::s,g=>cr g (dc (p+1) (.fieldAddr k x))::cr g (ie (p+2) (.load 1 ad (ai (p+1))))::ce b (p+2) (ai (p+2)::s) g
 |.A k a::b,p,s,g=>cr g (dc (p+1) (.fieldAddr k (ai a)))::ce b (p+1) (ai (p+1)::s) g
 |.a k::b,p,x::s,g=>cr g (dc (p+1) (.fieldAddr k x))::ce b (p+1) (ai (p+1)::s) g
 |.L::b,p,x::s,g=>cr g (dc (p+1) (.load 1 ad x))::ce b (p+1) (ai (p+1)::s) g
 |.P a k::b,p,s,g=>cr g (dc (p+1) (.gG (ai a)))::cr g (dc (p+2) (.nilCheck (ai (p+1))))::cr g (dc (p+3) (.fieldAddr k (ai (p+2))))::cr g (dc (p+4) (.load 1 ad (ai (p+3))))::ce b (p+4) (ai (p+4)::s) g
 |.H k a::b,p,s,g=>cr g (dc (p+1) (.load k U (ai a)))::ce b (p+1) (ai (p+1)::s) g
 |.h k::b,p,x::s,g=>cr g (dc (p+1) (.load k U x))::ce b (p+1) (ai (p+1)::s) g
 |.bt z::b,p,y::x::s,g=>cr g (dc (p+1) (.gq z x y))::ce b (p+1) (ai (p+1)::s) g
 |.x z i::b,p,x::s,g=>cr g (dc (p+1) (.gG (ai i)))::cr g (dc (p+2) (.gq z x (ai (p+1))))::ce b (p+2) (ai (p+2)::s) g
 |.D z a::b,p,x::s,g=>cr g (dc (p+1) (.gq z (ai a) x))::ce b (p+1) (ai (p+1)::s) g
 |.s k::b,p,x::y::s,g=>cr g (q3 (.store k x y))::ce b p s g
 |.S k a::b,p,y::s,g=>cr g (q3 (.store k (ai a) y))::ce b p s g
 |.o k::b,p,y::x::s,g=>cr g (q3 (.store k x y))::ce b p s g
 |.B O::b,p,y::x::s,g=>cr g (dc (p+1) (.cp O .none x y))::ce b (p+1) (ai (p+1)::s) g
 |.a6 O::b,p,y::x::s,g=>cr g (ie (p+1) (.cp O .none x y))::ce b (p+1) (ai (p+1)::s) g
 |.d O k::b,p,x::s,g=>cr g (dc (p+1) (.cp O .none x (f9 k)))::ce b (p+1) (ai (p+1)::s) g
 |.bc O k::b,p,x::s,g=>cr g (ie (p+1) (.cp O .none x (f9 k)))::ce b (p+1) (ai (p+1)::s) g
 |.N::b,p,x::s,g=>cr g (dc (p+1) (.nX x))::ce b (p+1) (ai (p+1)::s) g
 |.C::b,p,x::s,g=>cr g (dc (p+1) (.nilCheck x))::ce b (p+1) (ai (p+1)::s) g
 |.T::b,p,x::s,g=>cr g (ie (p+1) (.un .not x))::ce b (p+1) (ai (p+1)::s) g
 |.e::b,p,x::s,g=>cr g (dc (p+1) (.extract x 0))::cr g (dc (p+2) (.extract x 1))::ce b (p+2) (ai (p+1)::ai (p+2)::s) g
 |.E::b,p,x::s,g=>cr g (dc (p+1) (.extract x 0))::cr g (dc (p+2) (.extract x 1))::cr g (dc (p+3) (.extract x 2))::ce b (p+3) (ai (p+1)::ai (p+2)::ai (p+3)::s) g
 |.eL f::b,p,s,g=>cr g (dc (p+1) (.call f []))::ce b (p+1) (ai (p+1)::s) g
 |.c1 f::b,p,x::s,g=>cr g (dc (p+1) (.call f [x]))::ce b (p+1) (ai (p+1)::s) g
 |.c2 f::b,p,y::x::s,g=>cr g (dc (p+1) (.call f [x,y]))::ce b (p+1) (ai (p+1)::s) g
 |.c3 f::b,p,z::y::x::s,g=>cr g (dc (p+1) (.call f [x,y,z]))::ce b (p+1) (ai (p+1)::s) g
 |.bd f::b,p,s,g=>cr g (ie (p+1) (.call f []))::ce b (p+1) (ai (p+1)::s) g
 |.aD f::b,p,x::s,g=>cr g (ie (p+1) (.call f [x]))::ce b (p+1) (ai (p+1)::s) g
 |.ba f::b,p,y::x::s,g=>cr g (ie (p+1) (.call f [x,y]))::ce b (p+1) (ai (p+1)::s) g
 |.bA f::b,p,z::y::x::s,g=>cr g (ie (p+1) (.call f [x,y,z]))::ce b (p+1) (ai (p+1)::s) g
 |.c f l::b,p,s,g=>cr g (dc (p+1) (.call f l))::ce b (p+1) (ai (p+1)::s) g
 |.k f l::b,p,s,g=>cr g (ie (p+1) (.call f l))::ce b (p+1) (ai (p+1)::s) g
 |.O::b,p,x::s,g=>cr g (ie (p+1) (.gG x))::ce b (p+1) s ((p+1,ad)::g)
 |.Y::b,p,x::s,g=>cr g (ie (p+1) (.gG x))::ce b (p+1) s ((p+1,U)::g)
 |.j v::b,p,s,g=>cr g (dc (p+1) (.gG (ai v)))::cr g (dc (p+2) (.cp .add .none (ai (p+1)) (f9 1)))::cr g (dc v (.gG (ai (p+2))))::ce b (p+2) s g
 |.g Q::b,p,s,g=>cr g (dc (p+1) Q)::ce b (p+1) (ai (p+1)::s) g
 |.jN Q::b,p,s,g=>cr g (ie (p+1) Q)::ce b (p+1) (ai (p+1)::s) g
 |.p J::b,p,x::s,g=>cr g (dc (p+1) (J x))::ce b (p+1) (ai (p+1)::s) g
 |.sD J::b,p,x::s,g=>cr g (ie (p+1) (J x))::ce b (p+1) (ai (p+1)::s) g
 |.q W::b,p,y::x::s,g=>cr g (dc (p+1) (W x y))::ce b (p+1) (ai (p+1)::s) g
 |.dA W::b,p,y::x::s,g=>cr g (ie (p+1) (W x y))::ce b (p+1) (ai (p+1)::s) g
 |.G Q::b,p,s,g=>cr g (q3 Q)::ce b p s g
 |.X v k a::b,p,s,g=>cr g (dc v (.box k (ai a)))::ce b p s g
 |.W k v l::b,p,y::s,g=>cr g (dc v (.alloc l))::cr g (q3 (.store k (ai v) y))::ce b p s g
 |.z v l::b,p,s,g=>cr g (dc v (.alloc l))::ce b p s g
 |.K k v q::b,p,y::s,g=>cr g (dc v (.alloc (kk 99 q [])))::cr g (q3 (.store k (ai v) y))::ce b p s g
 |.y v q::b,p,s,g=>cr g (dc v (.alloc (kk 99 q [])))::ce b p s g
 |.v a::b,p,s,g=>ce b p ((ai a)::s) g
 |.n k::b,p,s,g=>ce b p ((f9 k)::s) g
 |.V c::b,p,s,g=>ce b p (c::s) g
 |.l q r::b,p,s,g=>cr g (dc (p+1) (.build (kk 99 q []) (kU r s [])))::ce b (p+1) (ai (p+1)::eW r s) g
 |.M q k n r::b,p,s,g=>cr g (dc (p+1) (.buildSlice (kk 99 q []) k n (kU r s [])))::ce b (p+1) (ai (p+1)::eW r s) g
 |.Z::b,p,x::s,(q,ad)::g=>cr g (ie (p+1) (.pick (ai q) jA x))::ce b (p+1) (ai (p+1)::s) g
 |.Z::b,p,x::s,(q,U)::g=>cr g (ie (p+1) (.pick (ai q) x mK))::ce b (p+1) (ai (p+1)::s) g
 |.r o::b,p,s,g=>o::ce b p s g
 |.R o::b,p,s,g=>o::ce b (p+1) (ai (p+1)::s) g
 |_,_,_,_=>[]
def k9:kn->Nat
 |.m _|.fX _|.A _ _|.a _|.L|.H _ _|.h _|.bt _|.D _ _|.B _|.a6 _|.d _ _|.bc _ _|.N|.C|.T|.eL _|.c1 _|.c2 _|.c3 _|.bd _|.aD _|.ba _|.bA _|.c _ _|.k _ _|.O|.Y|.g _|.jN _|.p _|.sD _|.q _|.dA _|.l _ _|.M _ _ _ _|.Z|.R _=>1
 |.F _ _|.f _|.dH _ _|.hV _|.x _ _|.e|.j _=>2
 |.E=>3
 |.P _ _=>4
 |_=>0
def ew:List kn->Nat->Nat
 |[],p=>p
 |i::l,p=>ew l (p+k9 i)
def g3:Nat->Nat->List Nat->List Nat
 |0,_,l=>l
 |_+1,i,l=>i::l
def bits:Nat->Nat->Nat->List Nat
 |0,_,_=>[]
 |_,_,0=>[]
 |f+1,i,n+1=>g3 ((n+1)%2) i (bits f (i+1) ((n+1)/2))
def lU:List bg->List Bool
 |[]=>[]
 |_::l=>U::lU l
@[reducible] noncomputable def ab (p:Nat) (l:List kn) (v:Nat) {o w} (_:(ce l p [] [],bits 999 0 v)=(o,w):=by dsimp only[ce,cr,ew,k9,bits,g3,kk,jU,kU,eW,ke,lU,Nat.reduceAdd,Nat.reduceMod,Nat.reduceDiv,fG,eH,List.map]):bu:=.region o w
@[reducible] noncomputable def eh (p:Nat) (l:List kn) (v:Nat) {o q w} (_:(ce l p [] [],lU (ce l p [] []),bits 999 0 v)=(o,q,w):=by dsimp only[ce,cr,ew,k9,bits,g3,kk,jU,kU,eW,ke,lU,Nat.reduceAdd,Nat.reduceMod,Nat.reduceDiv,fG,eH,List.map]):bu:=.mixed o q w
@[reducible] noncomputable def ed (p:Nat) (l:List kn) (q:List Bool) (v:Nat) {o w} (_:(ce l p [] [],bits 999 0 v)=(o,w):=by dsimp only[ce,cr,ew,k9,bits,g3,kk,jU,kU,eW,ke,lU,Nat.reduceAdd,Nat.reduceMod,Nat.reduceDiv,fG,eH,List.map]):bu:=.mixed o q w
@[reducible] noncomputable def e8 (p:Nat) (l:List kn) (f:List (Nat×List Nat)) (v:Nat) {o w q} (_:(ce l p [] [],bits 999 0 v,ke (ce l p [] []) f)=(o,w,q):=by dsimp only[ce,cr,ew,k9,bits,g3,kk,jU,kU,eW,ke,lU,Nat.reduceAdd,Nat.reduceMod,Nat.reduceDiv,fG,eH,List.map]):bu:=.float o q w
@[reducible] noncomputable def PA (e:Nat) (z:List V) (p:Nat) (l:List kn) (f:List (Nat×List Nat)) (v:Nat) {o w q} (_:(ce l p [] [],bits 999 0 v,ke (ce l p [] []) f)=(o,w,q):=by dsimp only[ce,cr,ew,k9,bits,g3,kk,jU,kU,eW,ke,lU,Nat.reduceAdd,Nat.reduceMod,Nat.reduceDiv,fG,eH,List.map]):bu:=.oN e z o q w
@[reducible] noncomputable def wt (p:Nat) (l:List kn) (v:Nat) (a b:bu) {o w t} (_:(ce l p [] [],bits 999 0 v++[ew l p],ew l p)=(o,w,t):=by dsimp only[ce,cr,ew,k9,bits,g3,kk,jU,kU,eW,ke,lU,Nat.reduceAdd,Nat.reduceMod,Nat.reduceDiv,fG,eH,List.map]):bu:=.seq (.region o w) (.cond (.tmp t) a b)
@[reducible] noncomputable def cK (p:Nat) (l:List kn) (v:Nat) (a:bu) {o w t} (_:(ce l p [] [],bits 999 0 v++[ew l p],ew l p)=(o,w,t):=by dsimp only[ce,cr,ew,k9,bits,g3,kk,jU,kU,eW,ke,lU,Nat.reduceAdd,Nat.reduceMod,Nat.reduceDiv,fG,eH,List.map]):bu:=.seq (.region o w) (.cond (.tmp t) a .skip)
@[reducible] noncomputable def bC (p:Nat) (l:List kn) (v:Nat) (a:bu) {o w t} (_:(ce l p [] [],bits 999 0 v++[ew l p],ew l p)=(o,w,t):=by dsimp only[ce,cr,ew,k9,bits,g3,kk,jU,kU,eW,ke,lU,Nat.reduceAdd,Nat.reduceMod,Nat.reduceDiv,fG,eH,List.map]):bu:=.seq (.region o w) (.cond (.tmp t) (.seq a .ret) .skip)
@[reducible] noncomputable def qt (p:Nat) (l:List kn) (v i:Nat) {o w t} (_:(ce l p [] [],bits 999 0 v++[ew l p],ew l p)=(o,w,t):=by dsimp only[ce,cr,ew,k9,bits,g3,kk,jU,kU,eW,ke,lU,Nat.reduceAdd,Nat.reduceMod,Nat.reduceDiv,fG,eH,List.map]):bu:=.seq (.region o w) (.cond (.tmp t) .skip (.exit i))
@[reducible] noncomputable def c7 (b v p:Nat) (l:List kn) (c:bu) (r:Nat) (m:List kn) {o w t a e d} (_:(ce l p [] [],bits 999 0 v++[ew l p],ew l p,bits 999 0 v,ce m r [] [],b+1)=(o,w,t,a,e,d):=by dsimp only[ce,cr,ew,k9,bits,g3,kk,jU,kU,eW,ke,lU,Nat.reduceAdd,Nat.reduceMod,Nat.reduceDiv,fG,eH,List.map]):bu:=.block b (.loop a (.seq (.region o w) (.seq (.cond (.tmp t) .skip (.exit b)) (.seq (.block d c) (.region e a)))))
@[reducible] noncomputable def e9 (b v p:Nat) (l:List kn) (c:bu) (r:Nat) (m:List kn) {o w t a e d} (_:(ce l p [] [],bits 999 0 v++[ew l p],ew l p,bits 999 0 v,ce m r [] [],b+1)=(o,w,t,a,e,d):=by dsimp only[ce,cr,ew,k9,bits,g3,kk,jU,kU,eW,ke,lU,Nat.reduceAdd,Nat.reduceMod,Nat.reduceDiv,fG,eH,List.map]):bu:=.block b (.loop a (.seq (.seq (.region o w) (.cond (.tmp t) .skip (.exit b))) (.seq (.block d c) (.region e a))))
@[reducible] noncomputable def a9 (n:Nat) (l:List Nat) (c:bu) {r} (_:l.map jF.tmp=r:=by dsimp only[ce,cr,ew,k9,bits,g3,kk,jU,kU,eW,ke,lU,Nat.reduceAdd,Nat.reduceMod,Nat.reduceDiv,fG,eH,List.map]):aU:=⟨n,r,c⟩
theorem abu(P:Program)(d:List bg)(c:List Nat)(x:aA)(a b:bu)(Q:Exit->av->Mem->Prop)(s:av)(M:Mem):ck P (.seq (.region d c) (.cond x a b)) Q s M=@kM P d M ⟨s,λf e=>ck P (.cond x a b) Q (fQ f c) e⟩:=rfl
theorem Yk(P:Program)(e:Nat)(z:List V)(c:List bg)(a:List (Option (List Nat)))(b:List Nat)(Q:Exit->av->Mem->Prop)(s:av)(M:Mem):ck P (.oN e z c a b) Q s M=@rM P z M.length e c a 0 (M++[.dead]) ⟨[],s,λf d=>Q .normal (fQ f b) d⟩:=rfl
attribute [go_sem↓high] abu Yk
def aS(_:Nat)(c:bu):bu:=c
theorem aX(n:Nat)(P:Program)(c:bu)(Q:Exit->av->Mem->Prop)(s:av)(M:Mem):ck P (aS n c) Q s M=ck P c Q s M:=rfl
def nV:Nat->Code->bu->List (Nat×List Nat)×List (Nat×List Nat)
 |0,_,_=>([],[])
 |k+1,c,a=>
  match c,a with
  |.region i _ _,.region _ l=>([(i,l)],[])
  |.region i _ _,.mixed _ _ l=>([(i,l)],[])
  |.region i _ _,.float _ _ l=>([(i,l)],[])
  |.region i _ _,.oN _ _ _ _ l=>([(i,l)],[])
  |.seq a b,.seq x y=>let p:=nV k a x;let q:=nV k b y;(p.1++q.1,p.2++q.2)
  |.cond _ a b,.cond _ x y=>let p:=nV k a x;let q:=nV k b y;(p.1++q.1,p.2++q.2)
  |.block _ a,.block _ x=>nV k a x
  |.loop a,.loop l x=>let p:=nV k a x;(p.1,(mm a,l)::p.2)
  |.scope a,.scope m l x y=>
   match findLabel a m with
   |some r=>let p:=nV k a x;let q:=nV k r y;(p.1++q.1,(mm r,l)::(p.2++q.2))
   |none=>([],[])
  |_,_=>([],[])
def IR(P:Program)(f:Nat)(fn:aU)(m:List (Nat×List Nat)):iO:=
 match P.funcs[f]? with
 |some F=>
  match F.body with
  |some c=>let r:=nV 200 c fn.body;⟨r.1,r.2,m⟩
  |none=>⟨[],[],m⟩
 |none=>⟨[],[],m⟩
section
variable{β:Type}
def d7(n:Nat)(k:Nat->β):β:=match n with
 |0=>k 0
 |m+1=>k (m+1)
def mj(b:Bool)(k:Bool->β):β:=match b with
 |true=>k U
 |false=>k ad
def nT{α:Type}(f:α->(α->β)->β)(o:Option α)(k:Option α->β):β:=match o with
 |none=>k ag
 |some x=>f x λy=>k (I y)
def go{α:Type}(f:α->(α->β)->β):List α->(List α->β)->β
 |[],k=>k []
 |x::l,k=>f x λy=>go f l λm=>k (y::m)
def cO(x:aA)(k:aA->β):β:=match x with
 |.tmp t=>d7 t λt=>k (.tmp t)
 |.const v=>k (.const v)
def qF{α:Type}(x:α)(k:α->β):β:=k x
def u_(x:Nat×Nat×aA)(k:Nat×Nat×aA->β):β:=match x with
 |(a,b,y)=>d7 a λa=>d7 b λb=>cO y λy=>k (a,b,y)
def zU(x:Nat×Bool)(k:Nat×Bool->β):β:=match x with
 |(a,b)=>d7 a λa=>mj b λb=>k (a,b)
def zV(o:cH)(k:cH->β):β:=match o with
 |.gG x=>cO x λx=>k (.gG x)
 |.lL n=>d7 n λn=>k (.lL n)
 |.pick c a b=>cO c λc=>cO a λa=>cO b λb=>k (.pick c a b)
 |.alloc z=>go qF z λz=>k (.alloc z)
 |.box n x=>d7 n λn=>cO x λx=>k (.box n x)
 |.build z p=>go qF z λz=>go u_ p λp=>k (.build z p)
 |.buildSlice z a b p=>go qF z λz=>d7 a λa=>d7 b λb=>go u_ p λp=>k (.buildSlice z a b p)
 |.mf z a p=>go qF z λz=>d7 a λa=>go u_ p λp=>k (.mf z a p)
 |.load n a x=>d7 n λn=>mj a λa=>cO x λx=>k (.load n a x)
 |.store n a x=>d7 n λn=>cO a λa=>cO x λx=>k (.store n a x)
 |.nilCheck x=>cO x λx=>k (.nilCheck x)
 |.cp o e x y=>cO x λx=>cO y λy=>k (.cp o e x y)
 |.un o x=>cO x λx=>k (.un o x)
 |.conv i x=>cO x λx=>k (.conv i x)
 |.pD x=>cO x λx=>k (.pD x)
 |.nN x=>cO x λx=>k (.nN x)
 |.jQ f c=>d7 f λf=>go cO c λc=>k (.jQ f c)
 |.makeSlice z a b l c=>go qF z λz=>d7 a λa=>d7 b λb=>cO l λl=>cO c λc=>k (.makeSlice z a b l c)
 |.oT z b l c=>d7 b λb=>cO l λl=>cO c λc=>k (.oT z b l c)
 |.slice s x a b c=>d7 s λs=>cO x λx=>nT cO a λa=>nT cO b λb=>nT cO c λc=>k (.slice s x a b c)
 |.qe x a b=>cO x λx=>nT cO a λa=>nT cO b λb=>k (.qe x a b)
 |.fieldAddr n x=>d7 n λn=>cO x λx=>k (.fieldAddr n x)
 |.field a b c x=>d7 a λa=>d7 b λb=>mj c λc=>cO x λx=>k (.field a b c x)
 |.eM a b x i=>d7 a λa=>d7 b λb=>cO x λx=>cO i λi=>k (.eM a b x i)
 |.gq s x i=>d7 s λs=>cO x λx=>cO i λi=>k (.gq s x i)
 |.mq x i=>cO x λx=>cO i λi=>k (.mq x i)
 |.oP a b g x i=>d7 a λa=>d7 b λb=>mj g λg=>cO x λx=>cO i λi=>k (.oP a b g x i)
 |.nX x=>cO x λx=>k (.nX x)
 |.k4 x=>cO x λx=>k (.k4 x)
 |.pY n=>d7 n λn=>k (.pY n)
 |.append i a b s x=>mj i λi=>d7 a λa=>d7 b λb=>cO s λs=>cO x λx=>k (.append i a b s x)
 |.k7 m x y=>mj m λm=>cO x λx=>cO y λy=>k (.k7 m x y)
 |.extract x i=>cO x λx=>d7 i λi=>k (.extract x i)
 |.makeMap r=>nT cO r λr=>k (.makeMap r)
 |.lookup c z a o m x=>go qF z λz=>mj a λa=>mj o λo=>cO m λm=>cO x λx=>k (.lookup c z a o m x)
 |.mapUpdate c m x y=>cO m λm=>cO x λx=>cO y λy=>k (.mapUpdate c m x y)
 |.mapEntry c z m x=>cO m λm=>cO x λx=>k (.mapEntry c z m x)
 |.entryStore m s x=>cO m λm=>cO s λs=>cO x λx=>k (.entryStore m s x)
 |.copy s d x=>d7 s λs=>cO d λd=>cO x λx=>k (.copy s d x)
 |.qd s x h m=>d7 s λs=>cO x λx=>cO h λh=>cO m λm=>k (.qd s x h m)
 |.nY x=>cO x λx=>k (.nY x)
 |.nf x=>cO x λx=>k (.nf x)
 |.call f l=>d7 f λf=>go cO l λl=>k (.call f l)
 |.fM f l=>cO f λf=>go cO l λl=>k (.fM f l)
 |.lO n x y=>mj n λn=>cO x λx=>cO y λy=>k (.lO n x y)
 |.p8 x=>cO x λx=>k (.p8 x)
 |.n2 x=>cO x λx=>k (.n2 x)
 |.pH x=>cO x λx=>k (.pH x)
 |.pZ x=>cO x λx=>k (.pZ x)
def tM(o:bg)(k:bg->β):β:=match o with
 |⟨d,op,b,g⟩=>nT d7 d λd=>zV op λop=>mj b λb=>nT zU g λg=>k ⟨d,op,b,g⟩
def iU:bu->(bu->β)->β
 |.skip,k=>k .skip
 |.region o l,k=>go tM o λo=>go d7 l λl=>k (.region o l)
 |.mixed o q l,k=>go tM o λo=>go mj q λq=>go d7 l λl=>k (.mixed o q l)
 |.float o q l,k=>go tM o λo=>go (nT (go d7)) q λq=>go d7 l λl=>k (.float o q l)
 |.oN c z o q l,k=>d7 c λc=>go qF z λz=>go tM o λo=>go (nT (go d7)) q λq=>go d7 l λl=>k (.oN c z o q l)
 |.seq a b,k=>iU a λa=>iU b λb=>k (.seq a b)
 |.cond c a b,k=>cO c λc=>iU a λa=>iU b λb=>k (.cond c a b)
 |.block i a,k=>d7 i λi=>iU a λa=>k (.block i a)
 |.loop l a,k=>go d7 l λl=>iU a λa=>k (.loop l a)
 |.scope i l a b,k=>d7 i λi=>go d7 l λl=>iU a λa=>iU b λb=>k (.scope i l a b)
 |.exit i,k=>d7 i λi=>k (.exit i)
 |.label,k=>k .label
 |.goto l,k=>d7 l λl=>k (.goto l)
 |.ret,k=>k .ret
def zW(r:jF)(k:jF->β):β:=match r with
 |.tmp t=>d7 t λt=>k (.tmp t)
 |.cell a b c=>d7 a λa=>d7 b λb=>mj c λc=>k (.cell a b c)
def zT(f:aU)(k:aU->β):β:=match f with
 |⟨n,r,b⟩=>d7 n λn=>go zW r λr=>iU b λb=>k ⟨n,r,b⟩
theorem jo(n:Nat)(k:Nat->β):d7 n k=k n:=by cases n<;>rfl
theorem u7(b:Bool)(k:Bool->β):mj b k=k b:=by cases b<;>rfl
theorem u9{α:Type}{f:α->(α->β)->β}(h:∀x k,f x k=k x)(o:Option α)(k:Option α->β):nT f o k=k o:=by
 cases o with
 |none=>rfl
 |some x=>exact h x _
theorem iV{α:Type}{f:α->(α->β)->β}(h:∀x k,f x k=k x):∀(l:List α)(k:List α->β),go f l k=k l
 |[],_=>rfl
 |x::l,k=>by show f x _=_;rw[h,iV h l]
theorem EP{α:Type}(x:α)(k:α->β):qF x k=k x:=rfl
theorem va(x:aA)(k:aA->β):cO x k=k x:=by
 cases x with
 |tmp t=>simp only[cO,jo]
 |const v=>rfl
def TU(x:Nat×Nat×aA)(k:Nat×Nat×aA->β):u_ x k=k x:=by obtain⟨a,b,y⟩:=x;simp only[u_,jo,va]
def TS(x:Nat×Bool)(k:Nat×Bool->β):zU x k=k x:=by obtain⟨a,b⟩:=x;simp only[zU,jo,u7]
def TT(o:cH)(k:cH->β):zV o k=k o:=by cases o<;>simp only[zV,jo,u7,va,iV EP,iV TU,iV va,u9 va]
def w9(o:bg)(k:bg->β):tM o k=k o:=by obtain⟨d,op,b,g⟩:=o;simp only[tM,u9 jo,TT,u7,u9 TS]
theorem pK:∀(c:bu)(k:bu->β),iU c k=k c
 |.skip,_|.label,_|.ret,_=>rfl
 |.region o l,k=>by simp only[iU,iV w9,iV jo]
 |.mixed o q l,k=>by simp only[iU,iV w9,iV u7,iV jo]
 |.float o q l,k=>by simp only[iU,iV w9,iV (u9 (iV jo)),iV jo]
 |.oN c z o q l,k=>by simp only[iU,jo,iV EP,iV w9,iV (u9 (iV jo)),iV jo]
 |.seq a b,k=>by simp only[iU,pK a,pK b]
 |.cond c a b,k=>by simp only[iU,va,pK a,pK b]
 |.block i a,k=>by simp only[iU,jo,pK a]
 |.loop l a,k=>by simp only[iU,iV jo,pK a]
 |.scope i l a b,k=>by simp only[iU,jo,iV jo,pK a,pK b]
 |.exit i,k=>by simp only[iU,jo]
 |.goto l,k=>by simp only[iU,jo]
def TV(r:jF)(k:jF->β):zW r k=k r:=by cases r<;>simp only[zW,jo,u7]
def TR(f:aU)(k:aU->β):zT f k=k f:=by obtain⟨n,r,b⟩:=f;simp only[zT,jo,iV TV,pK]
def rA(P:Program):List (Nat×iO×Bool)->List (Nat×aU×Bool)->(List (Nat×aU×Bool)->β)->β->β
 |[],t,k,_=>k t
 |(n,h,b)::r,t,k,z=>match mB P h n with
  |some fn=>zT fn λfn=>rA P r ((n,fn,b)::t) k z
  |none=>z
theorem Mv{P:Program}{z:β}:∀{l:List (Nat×iO×Bool)}{t:List (Nat×aU×Bool)}{k:List (Nat×aU×Bool)->β}{r:β},mZ P (j5 t)->rA P l t k z=r->r≠z->∃d,mZ P (j5 d)/\k d=r
 |[],t,k,r,a,h,_=>⟨t,a,h⟩
 |(n,f,b)::l,t,k,r,a,h,c=>by
  unfold rA at h;split at h
  . rename_i fn e;rw[TR] at h;exact Mv (bT e a) h c
  . exact aJ h.symm c
end
end Go.ao
namespace Go.ao
open Go.ao
def ah{P Q:Prop}(q:Q)(e:Q->P:=by intro Y;simp-implicitDefEqProofs (disch:=omega) only[go_sem];exact Y):P:=e q
def kF{P:Prop}(e:P:=by simp-implicitDefEqProofs (disch:=omega) only[go_sem]):P:=e
def aL{P Q b:Prop}(a:b)(q:Q)(e:b->Q->P:=by intro a Y;simp-implicitDefEqProofs (disch:=omega) only[go_sem,a];exact Y):P:=e a q
def jy{P b:Prop}(a:b)(e:b->P:=by intro a;simp-implicitDefEqProofs (disch:=omega) only[go_sem,a]):P:=e a
def bN{P Q c d:Prop}(a:c)(b:d)(q:Q)(e:c->d->Q->P:=by intro a b Y;simp-implicitDefEqProofs (disch:=omega) only[go_sem,a,b];exact Y):P:=e a b q
def i_{P c d:Prop}(a:c)(b:d)(e:c->d->P:=by intro a b;simp-implicitDefEqProofs (disch:=omega) only[go_sem,a,b]):P:=e a b
def b6{P Q d f g:Prop}(a:d)(b:f)(c:g)(q:Q)(e:d->f->g->Q->P:=by intro a b c Y;simp-implicitDefEqProofs (disch:=omega) only[go_sem,a,b,c];exact Y):P:=e a b c q
def pj{P d f g:Prop}(a:d)(b:f)(c:g)(e:d->f->g->P:=by intro a b c;simp-implicitDefEqProofs (disch:=omega) only[go_sem,a,b,c]):P:=e a b c
def d0{P Q f g h i:Prop}(a:f)(b:g)(c:h)(d:i)(q:Q)(e:f->g->h->i->Q->P:=by intro a b c d Y;simp-implicitDefEqProofs (disch:=omega) only[go_sem,a,b,c,d];exact Y):P:=e a b c d q
def rz{P f g h i:Prop}(a:f)(b:g)(c:h)(d:i)(e:f->g->h->i->P:=by intro a b c d;simp-implicitDefEqProofs (disch:=omega) only[go_sem,a,b,c,d]):P:=e a b c d
def es{P Q g h i j k:Prop}(a:g)(b:h)(c:i)(d:j)(f:k)(q:Q)(e:g->h->i->j->k->Q->P:=by intro a b c d f Y;simp-implicitDefEqProofs (disch:=omega) only[go_sem,a,b,c,d,f];exact Y):P:=e a b c d f q
def yo{P g h i j k:Prop}(a:g)(b:h)(c:i)(d:j)(f:k)(e:g->h->i->j->k->P:=by intro a b c d f;simp-implicitDefEqProofs (disch:=omega) only[go_sem,a,b,c,d,f]):P:=e a b c d f
def he{P Q h i j k l m:Prop}(a:h)(b:i)(c:j)(d:k)(f:l)(g:m)(q:Q)(e:h->i->j->k->l->m->Q->P:=by intro a b c d f g Y;simp-implicitDefEqProofs (disch:=omega) only[go_sem,a,b,c,d,f,g];exact Y):P:=e a b c d f g q
def mI{P Q i j k l m n o:Prop}(a:i)(b:j)(c:k)(d:l)(f:m)(g:n)(h:o)(q:Q)(e:i->j->k->l->m->n->o->Q->P:=by intro a b c d f g h Y;simp-implicitDefEqProofs (disch:=omega) only[go_sem,a,b,c,d,f,g,h];exact Y):P:=e a b c d f g h q
def oe{P Q j k l m n o p r:Prop}(a:j)(b:k)(c:l)(d:m)(f:n)(g:o)(h:p)(i:r)(q:Q)(e:j->k->l->m->n->o->p->r->Q->P:=by intro a b c d f g h i Y;simp-implicitDefEqProofs (disch:=omega) only[go_sem,a,b,c,d,f,g,h,i];exact Y):P:=e a b c d f g h i q
def og{P Q k l m n o p r s t:Prop}(a:k)(b:l)(c:m)(d:n)(f:o)(g:p)(h:r)(i:s)(j:t)(q:Q)(e:k->l->m->n->o->p->r->s->t->Q->P:=by intro a b c d f g h i j Y;simp-implicitDefEqProofs (disch:=omega) only[go_sem,a,b,c,d,f,g,h,i,j];exact Y):P:=e a b c d f g h i j q
def od{P Q m n p r s t u v w x o:Prop}(a:m)(b:n)(d:p)(f:r)(g:s)(h:t)(i:u)(j:v)(k:w)(l:x)(c:o)(q:Q)(e:m->n->p->r->s->t->u->v->w->x->o->Q->P:=by intro a b d f g h i j k l c Y;simp-implicitDefEqProofs (disch:=omega) only[go_sem,a,b,d,f,g,h,i,j,k,l,c];exact Y):P:=e a b d f g h i j k l c q
def fE{P Q b:Prop}(a:b)(q:Q)(e:b->Q->P:=by intro a Y;simp-implicitDefEqProofs (disch:=omega) only[go_sem,↓a];exact Y):P:=e a q
def pi{P Q c d:Prop}(a:c)(b:d)(q:Q)(e:c->d->Q->P:=by intro a b Y;simp-implicitDefEqProofs (disch:=omega) only[go_sem,↓a,b];exact Y):P:=e a b q
def v5{P Q d f g:Prop}(a:d)(b:f)(c:g)(q:Q)(e:d->f->g->Q->P:=by intro a b c Y;simp-implicitDefEqProofs (disch:=omega) only[go_sem,↓a,b,c];exact Y):P:=e a b c q
def lk{P Q f g h i:Prop}(a:f)(b:g)(c:h)(d:i)(q:Q)(e:f->g->h->i->Q->P:=by intro a b c d Y;simp-implicitDefEqProofs (disch:=omega) only[go_sem,↓a,b,c,d];exact Y):P:=e a b c d q
def rx{P Q g h i j k:Prop}(a:g)(b:h)(c:i)(d:j)(f:k)(q:Q)(e:g->h->i->j->k->Q->P:=by intro a b c d f Y;simp-implicitDefEqProofs (disch:=omega) only[go_sem,↓a,b,c,d,f];exact Y):P:=e a b c d f q
def B7{P Q h i j k l m:Prop}(a:h)(b:i)(c:j)(d:k)(f:l)(g:m)(q:Q)(e:h->i->j->k->l->m->Q->P:=by intro a b c d f g Y;simp-implicitDefEqProofs (disch:=omega) only[go_sem,↓a,b,c,d,f,g];exact Y):P:=e a b c d f g q
def yn{P Q c d:Prop}(a:c)(b:d)(q:Q)(e:c->d->Q->P:=by intro a b Y;simp-implicitDefEqProofs (disch:=omega) only[go_sem,↓a,↓b];exact Y):P:=e a b q
def v6{P Q g h i j k:Prop}(a:g)(b:h)(c:i)(d:j)(f:k)(q:Q)(e:g->h->i->j->k->Q->P:=by intro a b c d f Y;simp-implicitDefEqProofs (disch:=omega) only[go_sem,↓a,↓b,c,d,f];exact Y):P:=e a b c d f q
def bB{f:Nat}{h:iO}{P:Program}{fn:aU}{args:List V}{M:Mem}{R:V->Mem->Prop}(a:mB P h f=I fn)(c:Cd P fn args M R)(b:Nat.ble args.length fn.ntmps=U:=by rfl):bx P f args M R:=CN a (Nat.le_of_ble_eq_true b) c
def dX{f:Nat}{h:iO}{P:Program}{fn:aU}{args:List V}{M:Mem}{R:V->Mem->Prop}(a:mB P h f=I fn)(c:dN P fn args M R)(b:Nat.ble args.length fn.ntmps=U:=by rfl):bx P f args M R:=CL a (Nat.le_of_ble_eq_true b) c
def cF{p:Prop}[Decidable p]{A B:Prop}(b:¬p->B)(a:p->A):@l4 (decide p) ⟨A⟩ ⟨B⟩:=aW a b
def cU{b:Bool}{A B:Prop}(c:b=ad->B)(a:b=U->A):@l4 b ⟨A⟩ ⟨B⟩:=dt a c
end Go.ao
namespace Go.ao.C
open Go.ao
noncomputable abbrev aH:Program:=Go.Proofs.Tryz.prog
abbrev a3(i:Nat)(f:aU)(m:List (Nat×List Nat):=[]):Prop:=mB aH (IR aH i f m) i=I f
def a2{i f m}(h:mB aH (IR aH i f m) i=I f:=by kernel_rfl):a3 i f m:=h
noncomputable section
abbrev WQ:aU:=a9 43 [2] (el (ab 998 [.X 1 9 0,.u 2] 2) (bC 3 [.F 0 1,.N,.bc .gtr 5,.O,.F 2 1,.N,.bc .gtr 7,.Z,.O,.F 3 1,.N,.bc .gtr 30,.Z,.O,.F 4 1,.N,.bc .gtr 60,.Z] 2 (ab 0 [.u 2] 4)) (am (ab 0 [.i 3 0] 10) (e9 0 10 25 [.m 3,.F 2 1,.N,.a6 .lss] (bC 32 [.F 2 1,.x 8 3,.f 7,.N,.bc .gtr 6] 10 (ab 0 [.u 2] 4)) 30 [.j 3])) (ab 40 [.H 9 1,.aD 25,.b9 2] 4) aP)
def WR:a3 7 WQ:=a2
abbrev W_:aU:=a9 14 [4] (el (ab 0 [.X 2 9 0,.X 3 10 1,.i 4 0] 12) (bC 4 [.H 9 2,.aD 25,.T] 12 (ab 0 [.i 4 21] 16)) (bC 7 [.F 0 2,.N,.H 10 3,.ba 26,.T] 0 (ab 0 [.i 4 22] 16)) (ab 0 [.i 4 0] 16) aP)
def Xa:a3 8 W_:=a2
abbrev WS:aU:=a9 14 [2] (dj (ab 998 [.X 1 9 0,.u 2] 2) (ab 6 [.H 9 1,.c1 54,.w 6,.v 6,.E,.w 3,.w 4,.w 5] 32) (ab 11 [.m 5,.bc .eql 0,.b9 2] 4) aP)
def WV:a3 25 WS:=a2
abbrev Xb:aU:=a9 46 [4] (b_ (ab 0 [.X 3 10 1,.u 4] 9) (ab 4 [.F 0 3,.m 0,.d .sub 1,.v 6,.n 0,.v 8,.bA 55,.Y,.F 1 3,.m 0,.d .sub 1,.v 12,.n 0,.v 14,.bA 55,.Z,.Y,.F 2 3,.n 0,.n 3155932800,.bA 55,.Z,.Y,.F 4 3,.n 0,.n 8,.bA 55,.Z,.Y,.F 5 3,.n 0,.n 86400,.bA 55,.Z,.Y,.F 8 3,.n 0,.n 255,.bA 55,.Z,.Y,.dH 9 3,.Y,.dH 3 3,.Z,.T,.Z,.b9 4] 16) aP)
def Xc:a3 26 Xb:=a2
abbrev WI:aU:=a9 84 [2,3,4] (fx (ab 998 [.X 1 9 0,.i 2 0,.i 3 0,.i 4 0] 2) (ab 9 [.F 0 1,.c1 101,.w 9,.v 9,.e,.w 5,.w 6] 98) (bC 14 [.m 6,.bc .neq 0] 98 (ab 16 [.m 5,.m 6,.i 2 0,.v 17,.w 3,.w 4] 28)) (ab 19 [.F 1 1,.c1 102,.w 19,.v 19,.e,.w 5,.w 6] 98) (bC 24 [.m 6,.bc .neq 0] 98 (ab 26 [.m 5,.m 6,.i 2 1,.v 27,.w 3,.w 4] 28)) (bC 28 [.F 2 1,.N,.bc .gtr 1024] 2 (ab 0 [.i 2 2,.i 3 0,.i 4 5] 28)) (am (ab 0 [.i 7 0] 130) (e9 0 130 32 [.m 7,.F 2 1,.N,.a6 .lss] (am (ab 39 [.H 9 1,.m 7,.c2 103,.w 6] 194) (bC 42 [.m 6,.bc .neq 0] 194 (ab 44 [.m 7,.m 6,.i 2 2,.v 45,.w 3,.w 4] 28))) 37 [.j 7])) (fx (bC 46 [.F 3 1,.N,.bc .gtr 1024] 2 (ab 0 [.i 2 3,.i 3 0,.i 4 5] 28)) (am (ab 0 [.i 8 0] 258) (e9 2 258 50 [.m 8,.F 3 1,.N,.a6 .lss] (am (ab 57 [.H 9 1,.m 8,.c2 104,.w 6] 322) (bC 60 [.m 6,.bc .neq 0] 322 (ab 62 [.m 8,.m 6,.i 2 3,.v 63,.w 3,.w 4] 28))) 55 [.j 8])) (ab 65 [.H 9 1,.c1 105,.w 65,.v 65,.e,.w 5,.w 6] 98) (bC 69 [.m 6,.bc .neq 0] 98 (ab 71 [.m 5,.m 6,.i 2 4,.v 72,.w 3,.w 4] 28)) (ab 74 [.A 5 1,.h 4,.c1 106,.w 74,.v 74,.e,.w 5,.w 6] 96) (bC 79 [.m 6,.bc .neq 0] 96 (ab 81 [.m 5,.m 6,.i 2 5,.v 82,.w 3,.w 4] 28)) (ab 0 [.i 2 0,.i 3 0,.i 4 0] 28) aP))
def WJ:a3 54 WI:=a2
abbrev Xd:aU:=a9 15 [6] (b_ (ab 0 [.u 6] 7) (ab 6 [.m 0,.m 1,.a6 .geq,.Y,.m 0,.m 2,.a6 .leq,.Z,.b9 6] 64) aP)
def Xe:a3 55 Xd:=a2
abbrev W8:aU:=a9 57 [2,3] (el (ab 0 [.i 2 0,.i 3 0] 1) (bC 5 [.m 0,.N,.bc .gtr 64] 1 (ab 0 [.i 2 0,.i 3 5] 12)) (am (ab 0 [.i 4 0] 17) (e9 0 17 8 [.m 4,.m 0,.N,.a6 .lss] (b_ (bC 14 [.m 0,.x 4 4,.f 0,.aD 155,.T] 17 (ab 21 [.m 4,.w 2,.i 3 12] 12)) (am (ab 0 [.i 5 0] 49) (e9 2 49 22 [.m 5,.m 4,.a6 .lss] (am (eh 27 [.m 0,.x 4 5,.f 0,.m 0,.x 4 4,.f 0,.a6 .eql] 274877906993) (bM 38 (am (ab 38 [.m 4,.w 2,.i 3 6] 12) aP) bd)) 25 [.j 5])) (bC 39 [.m 0,.x 4 4,.f 1,.n 0,.n 15,.bA 156,.T,.O,.m 0,.x 4 4,.f 3,.n 0,.n 3600,.bA 156,.T,.Z] 17 (ab 55 [.m 4,.w 2,.i 3 2] 12))) 12 [.j 4])) (ab 0 [.i 2 0,.i 3 0] 12) aP)
def W9:a3 101 W8:=a2
abbrev W4:aU:=a9 48 [2,3] (el (ab 0 [.i 2 0,.i 3 0] 1) (bC 5 [.m 0,.N,.bc .gtr 64] 1 (ab 0 [.i 2 0,.i 3 5] 12)) (am (ab 0 [.i 4 0] 17) (e9 0 17 8 [.m 4,.m 0,.N,.a6 .lss] (b_ (bC 14 [.m 0,.x 3 4,.f 0,.aD 155,.T] 17 (ab 21 [.m 4,.w 2,.i 3 12] 12)) (am (ab 0 [.i 5 0] 49) (e9 2 49 22 [.m 5,.m 4,.a6 .lss] (am (eh 27 [.m 0,.x 3 5,.f 0,.m 0,.x 3 4,.f 0,.a6 .eql] 274877906993) (bM 38 (am (ab 38 [.m 4,.w 2,.i 3 6] 12) aP) bd)) 25 [.j 5])) (bC 39 [.m 0,.x 3 4,.f 1,.n 0,.n 7,.bA 156,.T] 17 (ab 46 [.m 4,.w 2,.i 3 2] 12))) 12 [.j 4])) (ab 0 [.i 2 0,.i 3 0] 12) aP)
def W5:a3 102 W4:=a2
abbrev W6:aU:=a9 79 [4] (dj (ab 0 [.X 2 9 0,.i 4 0] 6) (ab 8 [.F 2 2,.x 8 1,.h 8,.K 8 5 11121334] 38) (bC 13 [.F 3 5,.aD 155,.T] 38 (ab 0 [.i 4 12] 16)) (fx (bC 17 [.F 0 5,.bc .lss (-1),.O,.F 2 5,.bc .lss 0,.Z] 38 (ab 0 [.i 4 2] 16)) (bC 25 [.F 1 5,.n 0,.n 36524,.bA 156,.T] 38 (ab 0 [.i 4 11] 16)) (bC 29 [.F 4 5,.bc .lss 0,.O,.F 4 5,.F 1 2,.N,.a6 .geq,.Z] 38 (ab 0 [.i 4 9] 16)) (ab 40 [.F 7 5,.F 0 2,.N,.c 157 [ai 42,ai 45,f9 0,f9 3155932800],.w 6] 102) (bC 46 [.m 6,.bc .neq 0] 102 (ab 48 [.m 6,.w 4] 16)) (am (ab 0 [.i 7 0] 166) (e9 0 166 49 [.m 7,.m 1,.a6 .lss] (am (ab 54 [.F 2 2,.x 8 7,.h 8,.K 8 8 11121334] 422) (bC 59 [.F 3 8,.F 3 5,.a6 .eql,.Y,.F 1 8,.F 1 5,.a6 .eql,.Z,.Y,.F 2 8,.F 2 5,.a6 .eql,.Z] 166 (ab 0 [.i 4 6] 16))) 52 [.j 7])) (ab 0 [.i 4 0] 16) aP))
def W7:a3 103 W6:=a2
abbrev W0:aU:=a9 177 [4] (el (ab 0 [.X 2 9 0,.i 4 0] 6) (ab 11 [.F 3 2,.x 5 1,.h 5,.K 5 5 11113] 38) (bC 16 [.F 0 5,.F 2 2,.N,.d .sub 1,.v 18,.n 0,.v 22,.bA 156,.T,.O,.F 2 5,.F 2 2,.N,.d .sub 1,.v 27,.n 0,.v 31,.bA 156,.T,.Z,.O,.F 0 5,.F 2 5,.a6 .eql,.Z] 38 (ab 0 [.i 4 9] 16)) (eh 41 [.F 2 2,.F 0 5,.bt 8,.f 7,.F 2 2,.F 2 5,.bt 8,.f 7,.v 48,.w 6,.w 7] 230) (fx (bC 55 [.F 1 5,.m 6,.N,.d .sub 1,.v 57,.n 0,.v 60,.bA 156,.T,.O,.F 3 5,.m 7,.N,.d .sub 1,.v 65,.n 0,.v 68,.bA 156,.T,.Z] 230 (ab 0 [.i 4 9] 16)) (am (eh 71 [.m 6,.F 1 5,.bt 5,.f 0,.m 7,.F 3 5,.bt 5,.f 0,.a6 .neq] 19342813113834066795298918) (bM 84 (am (ab 0 [.i 4 13] 16) aP) bd)) (bC 84 [.dH 4 5,.Y,.F 1 5,.m 6,.N,.d .sub 1,.a6 .neq,.O,.F 3 5,.bc .neq 0,.Z,.Z] 38 (ab 0 [.i 4 19] 16)) (am (ab 0 [.i 8 0] 294) (e9 0 294 99 [.m 8,.m 1,.a6 .lss] (am (ab 104 [.F 3 2,.x 5 8,.h 5,.K 5 9 11113] 806) (bC 109 [.dH 4 5,.Y,.dH 4 9,.Z,.Y,.F 0 9,.F 0 5,.a6 .eql,.O,.F 2 9,.F 2 5,.a6 .eql,.Z,.Z] 294 (ab 0 [.i 4 19] 16))) 102 [.j 8])) (bC 129 [.dH 4 5,.Y,.H 9 2,.m 1,.F 2 5,.F 0 5,.k 158 [ai 133,ai 134,ai 136,ai 138],.Z] 38 (ab 0 [.i 4 19] 16)) (am (ab 0 [.i 10 0] 1062) (e9 2 1062 140 [.m 10,.m 1,.a6 .lss] (am (ab 145 [.F 3 2,.x 5 10,.h 5,.K 5 11 11113] 3110) (bC 150 [.F 0 11,.F 0 5,.a6 .eql,.Y,.F 1 11,.F 1 5,.a6 .eql,.Z,.Y,.F 2 11,.F 2 5,.a6 .eql,.Z,.Y,.F 3 11,.F 3 5,.a6 .eql,.Z] 1062 (ab 0 [.i 4 6] 16))) 143 [.j 10])) (ab 0 [.i 4 0] 16) aP))
def W1:a3 104 W0:=a2
abbrev W2:aU:=a9 111 [2,3] (nW (ab 998 [.X 1 9 0,.i 2 0,.i 3 0] 2) (am (ab 0 [.i 4 0] 18) (e9 0 18 9 [.m 4,.F 4 1,.N,.a6 .lss] (el (ab 16 [.F 4 1,.x 4 4,.h 4,.K 4 5 1113] 50) (bC 21 [.F 0 5,.F 0 1,.N,.d .sub 1,.v 23,.n 0,.v 27,.bA 156,.T,.O,.F 1 5,.F 0 1,.N,.d .sub 1,.v 32,.n 0,.v 36,.bA 156,.T,.Z,.O,.F 0 5,.F 1 5,.a6 .eql,.Z] 50 (ab 46 [.m 4,.w 2,.i 3 9] 12)) (bC 47 [.F 2 5,.n 1,.n 14400,.bA 156,.T] 50 (ab 51 [.m 4,.w 2,.i 3 2] 12)) (ab 0 [.i 6 0] 114) (e9 2 114 52 [.m 6,.m 4,.a6 .lss] (am (ab 57 [.F 4 1,.x 4 6,.h 4,.K 4 7 1113] 242) (bC 62 [.F 0 7,.F 0 5,.a6 .eql,.Y,.F 1 7,.F 1 5,.a6 .eql,.Z,.Y,.dH 3 7,.dH 3 5,.dA (.cp .eql .bool),.Z] 114 (ab 81 [.m 4,.w 2,.i 3 6] 12))) 55 [.j 6])) 14 [.j 4])) (ab 82 [.F 4 1,.F 0 1,.N,.c2 159,.w 8] 258) (bC 88 [.m 8,.N,.F 4 1,.N,.a6 .neq] 258 (ab 0 [.i 2 0,.i 3 18] 12)) (am (ab 0 [.i 9 0] 770) (e9 4 770 94 [.m 9,.m 8,.N,.a6 .lss] (am (eh 100 [.m 8,.x 4 9,.h 4,.F 4 1,.x 4 9,.h 4,.dA (.cp .neq (.cells [.int,.int,.int,.bool]))] 1298074214633706907132624082305794) (bM 110 (am (ab 0 [.i 2 0,.i 3 18] 12) aP) bd)) 98 [.j 9])) (ab 0 [.i 2 0,.i 3 0] 12) aP)
def W3:a3 105 W2:=a2
abbrev WM:aU:=a9 88 [2,3] (gr (ab 998 [.X 1 4 0,.i 2 0,.i 3 0] 2) (bC 6 [.F 1 1,.n 0,.n 1000000,.bA 156,.T,.O,.F 2 1,.n 0,.n 86400,.bA 156,.T,.Z,.O,.F 3 1,.n 0,.n 1000000,.bA 156,.T,.Z] 2 (ab 0 [.i 2 (-1),.i 3 2] 12)) (bC 22 [.F 0 1,.N,.bc .gtr 16] 2 (ab 0 [.i 2 0,.i 3 5] 12)) (am (ab 0 [.i 4 0] 18) (e9 0 18 26 [.m 4,.F 0 1,.N,.a6 .lss] (dj (ab 33 [.F 0 1,.x 6 4,.h 6,.K 6 5 211111] 50) (bC 38 [.F 0 5,.aD 155,.T] 50 (ab 42 [.m 4,.w 2,.i 3 12] 12)) (am (ab 0 [.i 6 0] 114) (e9 2 114 43 [.m 6,.m 4,.a6 .lss] (am (eh 48 [.F 0 1,.x 6 6,.f 0,.F 0 5,.a6 .eql] 144115188075855986) (bM 57 (am (ab 57 [.m 4,.w 2,.i 3 6] 12) aP) bd)) 46 [.j 6])) (bC 58 [.F 1 5,.n 0,.n 1000000,.bA 156,.T,.O,.F 2 5,.n 1,.n 8,.bA 156,.T,.Z,.O,.F 3 5,.n 1,.n 16,.bA 156,.T,.Z,.O,.F 4 5,.n 0,.n 86400,.bA 156,.T,.Z,.O,.F 5 5,.n 1,.n 255,.bA 156,.T,.Z] 18 (ab 86 [.m 4,.w 2,.i 3 2] 12))) 31 [.j 4])) (ab 0 [.i 2 0,.i 3 0] 12) aP)
def WN:a3 106 WM:=a2
abbrev WT:aU:=a9 59 [2] (el (ab 0 [.u 2] 1) (bC 5 [.m 0,.p .k4,.bc .lss 1,.O,.m 0,.p .k4,.bc .gtr 32,.Z] 1 (ab 0 [.u 2] 4)) (am (ab 0 [.i 3 0] 9) (e9 0 9 13 [.m 3,.m 0,.p .k4,.a6 .lss] (b_ (ab 19 [.m 0,.m 3,.q .mq,.w 4] 25) (ab 22 [.m 4,.V (.const (.int .u8 97)),.dA (.cp .geq .none),.Y,.m 4,.V (.const (.int .u8 122)),.dA (.cp .leq .none),.Z,.O,.m 4,.V (.const (.int .u8 65)),.dA (.cp .geq .none),.Y,.m 4,.V (.const (.int .u8 90)),.dA (.cp .leq .none),.Z,.Z,.O,.m 4,.V (.const (.int .u8 48)),.dA (.cp .geq .none),.Y,.m 4,.V (.const (.int .u8 57)),.dA (.cp .leq .none),.Z,.Z,.b9 5] 57) (bC 44 [.fX 5,.T,.Y,.m 4,.V (.const (.int .u8 45)),.dA (.cp .neq .none),.Z,.Y,.m 4,.V (.const (.int .u8 95)),.dA (.cp .neq .none),.Z,.Y,.m 4,.V (.const (.int .u8 46)),.dA (.cp .neq .none),.Z] 9 (ab 0 [.u 2] 4))) 17 [.j 3])) (ab 0 [.t 2] 4) aP)
def WU:a3 155 WT:=a2
abbrev WW:aU:=a9 15 [6] (b_ (ab 0 [.u 6] 7) (ab 6 [.m 0,.m 1,.a6 .geq,.Y,.m 0,.m 2,.a6 .leq,.Z,.b9 6] 64) aP)
def WX:a3 156 WW:=a2
abbrev WG:aU:=a9 83 [8] (el (ab 0 [.i 8 0] 15) (bC 10 [.m 0,.N,.bc .lss 2,.O,.m 0,.N,.bc .gtr 32,.Z] 15 (ab 0 [.i 8 5] 256)) (am (ab 0 [.i 9 0] 527) (e9 0 527 18 [.m 9,.m 0,.N,.a6 .lss] (el (ab 24 [.m 0,.x 5 9,.h 5,.K 5 10 11133] 1551) (bC 28 [.F 0 10,.bc .lss 0,.O,.F 0 10,.m 1,.a6 .geq,.Z] 1551 (ab 0 [.i 8 9] 256)) (am (eh 37 [.m 9,.bc .gtr 0,.Y,.m 0,.m 9,.d .sub 1,.bt 5,.f 0,.F 0 10,.a6 .eql,.Z] 1125899906844175) (bM 50 (am (ab 0 [.i 8 13] 256) aP) bd)) (eh 50 [.F 1 10,.m 2,.a6 .lss,.O,.F 1 10,.F 2 10,.a6 .gtr,.Z,.O,.F 2 10,.m 3,.a6 .gtr,.Z,.O,.m 9,.bc .gtr 0,.Y,.F 1 10,.m 0,.m 9,.d .sub 1,.bt 5,.f 2,.a6 .lss,.Z,.Z] 4835703278458516698825231) (bM 82 (am (ab 0 [.i 8 10] 256) aP) bd)) 22 [.j 9])) (ab 0 [.i 8 0] 256) aP)
def WH:a3 157 WG:=a2
abbrev WY:aU:=a9 48 [8] (dj (ab 0 [.X 4 9 0,.u 8] 30) (am (ab 0 [.i 9 0] 542) (e9 0 542 11 [.m 9,.m 1,.a6 .leq] (dj (ab 0 [.i 10 (-1)] 1566) (am (ab 0 [.i 11 0] 3614) (e9 2 3614 16 [.m 11,.m 1,.a6 .lss] (cK 21 [.F 3 4,.x 5 11,.hV 4,.Y,.F 3 4,.x 5 11,.f 0,.m 2,.a6 .eql,.Z] 3614 (ab 37 [.F 3 4,.x 5 11,.f 2,.w 10] 3614)) 19 [.j 11])) (bC 43 [.m 10,.m 3,.a6 .eql] 1562 (ab 0 [.t 8] 256)) (ab 46 [.m 10,.w 2] 542)) 14 [.j 9])) (ab 0 [.u 8] 256) aP)
def WZ:a3 158 WY:=a2
abbrev DB:bu:=aS 41 (ab 105 [.m 7,.w 4] 16)
theorem Tf(P:Program)(Q:Exit->av->Mem->Prop)(s:av)(M:Mem):ck P DB Q s M=@kM P [a5 106 7,a5 4 106] M ⟨s,λb a=>Q .normal (fQ b [4]) a⟩:=rfl
abbrev WK:aU:=a9 107 [4] (gr (ab 0 [.V dF,.w 4] 3) (ab 9 [.m 0,.m 1,.c 188 [ai 10,ai 11,mK],.m 0,.m 1,.c 188 [ai 13,ai 14,jA],.v 12,.w 5,.w 6] 98) (ab 15 [.g (.buildSlice [] 4 0 []),.w 7] 226) (am (ab 0 [.i 8 0] 482) (e9 0 482 16 [.m 8,.m 1,.a6 .lss] (am (ab 0 [.i 9 0] 994) (e9 2 994 21 [.m 9,.m 1,.a6 .lss] (dj (cK 26 [.m 8,.m 9,.a6 .eql,.O,.m 5,.x 1 8,.L,.x 1 9,.L,.bc .gtr 14400,.Z] 994 (dM 3)) (ed 39 [.m 7,.m 8,.m 9,.m 5,.x 1 8,.L,.x 1 9,.L,.m 6,.x 1 8,.L,.x 1 9,.L,.m 5,.x 1 8,.L,.x 1 9,.L,.a6 .eql,.l 1113 [(3,1),(2,1),(1,1),(0,1)],.M 1113 4 1 [(0,4)],.R (ei 67 4 32 40 66),.w 7] [af,af,af,af,af,af,af,af,af,af,af,af,af,af,af,af,af,af,af,af,af,af,af,af,af,af,af,dY,af] 994) (eh 67 [.m 6,.x 1 8,.L,.x 1 9,.L,.m 5,.x 1 8,.L,.x 1 9,.L,.a6 .gtr,.Y,.m 6,.x 1 8,.L,.x 1 9,.L,.bc .leq 14400,.Z] 4951760157141521099596497890) (bM 92 (ab 92 [.m 7,.m 8,.m 9,.m 6,.x 1 8,.L,.x 1 9,.L,.V (.const (.bool U)),.l 1113 [(3,1),(2,1),(1,1),(0,1)],.M 1113 4 1 [(0,4)],.R (ei 105 4 32 93 104),.w 7] 994) bd)) 24 [.j 9])) 19 [.j 8])) DB aP)
def WL:a3 159 WK:=a2
abbrev WO:aU:=a9 116 [6] (nW (ab 0 [.V dF,.w 6] 7) (ab 15 [.g (.mf [] 0 []),.w 7] 135) (am (ab 0 [.i 8 0] 391) (e9 0 391 16 [.m 8,.m 1,.a6 .lss] (b_ (ab 21 [.g (.buildSlice [] 1 0 []),.w 9] 903) (am (ab 0 [.i 10 0] 1927) (e9 2 1927 22 [.m 10,.m 1,.a6 .lss] (ab 27 [.m 9,.V (.const (.int .i64 1099511627776)),.M 1 1 1 [(0,1)],.R (ei 30 1 8 28 29),.w 9] 1927) 25 [.j 10])) (ab 30 [.m 7,.m 9,.g (.mf [g9] 1 [(0,(1,(ai 32)))]),.R (ei 34 1 24 31 33),.w 7] 391)) 19 [.j 8])) (am (ab 0 [.i 11 0] 2183) (e9 4 2183 34 [.m 11,.m 0,.N,.a6 .lss] (am (ab 40 [.m 0,.x 4 11,.h 4,.K 4 12 1113] 6279) (cK 44 [.dH 3 12,.O,.fX 2,.T,.Z] 6279 (ed 50 [.m 7,.F 0 12,.bt 1,.L,.F 1 12,.m 7,.F 0 12,.bt 1,.L,.F 1 12,.bt 1,.L,.F 2 12,.q (.k7 ad),.v 57,.D 1 55,.s 1] [af,af,af,af,af,af,af,af,af,af,af,af,af,af,af,af,af,af,af,af,dY] 2183))) 38 [.j 11])) (am (ab 0 [.i 13 0] 8322) (e9 6 8322 70 [.m 13,.m 1,.a6 .lss] (am (ab 0 [.i 14 0] 24706) (e9 8 24706 75 [.m 14,.m 1,.a6 .lss] (am (ab 0 [.i 15 0] 57474) (e9 10 57474 80 [.m 15,.m 1,.a6 .lss] (ed 85 [.m 7,.x 1 14,.L,.m 15,.m 7,.x 1 14,.L,.x 1 15,.L,.m 7,.x 1 14,.L,.x 1 13,.L,.m 7,.x 1 13,.L,.x 1 15,.L,.B .add,.q (.k7 ad),.v 90,.D 1 89,.s 1] [af,af,af,af,af,af,af,af,af,af,af,af,af,af,af,af,af,af,af,af,af,af,af,af,af,af,af,af,af,dY] 57474) 83 [.j 15])) 78 [.j 14])) 73 [.j 13])) (aS 94 (ab 114 [.m 7,.w 6] 64)) aP)
def WP:a3 188 WO [(1,[5000]),(10,[5002])]:=a2
end
end Go.ao.C
