/- A part of the proof of TopAgreement: the abstract machine, the code that the statement reaches, the contracts of its functions. Part 5. The text is made short by a program. -/
import Derived.Test.YtbndjigedmpplaaGreatG4
set_option linter.all false
set_option maxHeartbeats 8000000
set_option maxRecDepth 10000
open Array renaming getD_eq_getD_getElem?->gL
open Bool renaming and_eq_true->bL,and_self->cR,false->ad,true->U
open Int renaming le_refl->fS,toNat_natCast->dU,toNat_of_nonneg->fr
open List renaming append_assoc->cS,cons_append->fG,drop_zero->hN,getElem?_append_right->fH,getElem?_drop->h2,getElem?_eq_getElem->cG,getElem?_eq_some_iff->az,getElem?_map->dK,getElem?_of_mem->eb,getElem?_set_ne->bo,getElem?_set_self->bY,getElem?_take_of_lt->fT,length_append->b0,length_cons->cc,length_drop->kJ,length_eq_zero_iff->lY,length_filter_le->lZ,length_map->cz,length_nil->eu,length_set->cW,length_singleton->hP,length_take->fh,map_append->iL,mem_append->dv,mem_cons->fI,mem_map->gY,mem_of_getElem?->bI,mem_range->hh,mem_singleton->dV,nil_append->eH,not_mem_nil->gh,range->b8,set_set->h3,take_add_one->gM,take_of_length_le->eS
open Nat renaming add_zero->g_,le_refl->bk,le_trans->fJ,lt_or_ge->eT,mul_le_mul_right->hj,not_lt_zero->c9,zero_add->dm,zero_le->c_
open Ne renaming symm->cA
open Option renaming getD_some->nz,map_eq_some_iff->cL,map_some->jE,none->ag,some->I
open Option.some renaming inj->mN,injEq->aC
open Prod.mk renaming injEq->dh
namespace Go.ao.C
open Go.ao
def nK.low{n:ak}{T j:Int}{P e:Nat->co}{R f:Nat->Int}(h:nK n j P e R f)(k:T<=j):nK n T P e R f:=
 ⟨h.imp,h.rd,h.run,λs=>(h.xZ s).imp id λg=>Int.le_trans k g,λi=>(h.x2 i).imp id λ⟨S,c,a,b,d,g⟩=>⟨S,c,a,b,d,Int.le_trans k g⟩⟩
def h6.low{n:ak}{C:List Int}{T b:Int}{S a:eF}(h:h6 n C b S a)(c:T<=b):h6 n C T S a:=⟨h.st.low c,h.vD,h.same,h.w,h.lt,h.c4⟩
structure Pp(n:ak)(q q0:aG)(C:List Int)(l:List c0)(f bp vp br vr:Nat)(rv xv:V)(M:Mem)(i:Nat)(S:eF)(N:Mem):Prop where
 q5:∀(j:Nat)(cs:List V),M[j]? =I (.box cs)->j≠f/\N[j]? =I (.box cs)
 eV:eJ n q f bp vp br vr rv xv S N
 ok:hb n q0 C S
 eP:rQ n q0 S.P
 bD:∀s:Nat,(S.P s).rd≠-1->ma n S.P s (S.P s).rd
 nP:∀(j:Nat)(x:c0),j<i->l[j]? =I x->nC n S.P (λi=>(S.R i).cl) x.run.toNat x.cl.toNat
 K5:∀(j j':Nat)(x y:c0),j<i->i<=j'->l[j]? =I x->l[j']? =I y->x.aR<y.aR
def SN(l:List c0)(c:cg){i k:Nat}(g:i<=k)(h:k<=l.length):∃d,∀N:Mem,eQ 6 (.slice (l.map c0.row) c) (I (aa (i:Int))) (I (aa (k:Int))) ag N=I (.slice (((l.drop i).take (k -i)).map c0.row) d):=by refine⟨kp c k l.length l.length ad,λN=>?_⟩;have a:decide (0<=(i:Int))=U:=bR;have b:decide (0<=(k:Int))=U:=bR;have e:dP 6 (l.map c0.row)=U:=pS (f:=c0.row) (n:=6) (λ_=>rfl) l;simp only[eQ,gE,a,b,bi,dU,cz,e,be g,be h,Bool.true_and,be (bk l.length),Option.isSome_none,List.map_take,List.map_drop]
def D0(n:ak)(q:aG)(a3:n.wf)(ok:di n)(al:ka n.aB.length q)(bo:q.hE=ad){g:aG}(bd:g.src=q.src)(be:g.aM=q.aM)(bf:g.hc=q.hc)
 (aV:bq aH 64 [.agg (c8 n q).row] (λv=>∃l c,tc (c8 n q) l/\v=.tuple [.slice (l.map c0.row) c,v0]))(M:Mem):
 bx aH 29 [.agg n.row,.agg q.row] M (λv N=>∃f O Z Q ab Y ai S,v=.tuple [.ptr f 0,v0]/\(∀(j:Nat)(u:List V),M[j]? =I (.box u)->j≠f/\N[j]? =I (.box u))/\eJ (c8 n q) q f O Z Q ab Y ai S N/\hb (c8 n q) g (fY (c8 n q) g) S/\th (c8 n q) g S.P (λi=>(S.R i).cl)/\S.B.length<=100000000):=by
 have aZ:=aca n q a3 ok al bo;have aY:=v_ n q a3 ok al;have a8:=tt n q ok;have F:=vV a8;have b7:=ZF (q:=g) a8;have bK:0<=q.src/\q.src<(c8 n q).aB.length:=al.src;generalize c8 n q=d at*;have a4:=λM=>RX (F) bK al.aM bd be bf M;refine dX HH ?_;simp only[dN];simp only[ak.row,aG.row] at aZ aY aV a4;have aS:∀G:Mem,(M++G)[M.length]? =G[0]? :=λG=>cE M G;have aE:∀G:Mem,(M++G)[M.length+1]? =G[1]? :=λG=>fW M G 1;have aT:∀G:Mem,(M++G)[M.length+2]? =G[2]? :=λG=>fW M G 2;have bg:∀(a b B X:au)(L:Mem),(M++a::b::B::L).set (M.length+2) X=M++a::b::X::L:=λa b B X L=>by simp
 simp-implicitDefEqProofs (disch:=omega) only[go_sem,ak.row,aG.row,cS,fG,eH];refine Bu ?_;refine bN aS aE ?_;refine bG aZ (bN aS aE ?_);refine bG aY ?_;simp-implicitDefEqProofs (disch:=omega) only[go_sem,aE,aT,bg,cS,fG,eH];refine ch (a4 _) ?_;rintro v bW ⟨f,O,Z,Q,ab,Y,ai,aq,rfl,aN,bl,bM,bO,bP,bZ⟩;have bH:=(aN (M.length+2) _ (by rw[aT];rfl)).2;refine aL bH ?_;refine d2 aV ?_;rintro v ⟨l,c,T,rfl⟩;have b3:=T.len;have bC:(l.map c0.row).length=l.length:=cz _;refine ah ?_;have b_:lS d (fY d g) aq<=30000:=by have H:=aay (C:=fY d g) (P:=aq.P) F.aB;have K:=KX F.ar (λi=>(aq.R i).cl);show q9 _ _ _+jS _ _<=_;omega
 have bF:=F.mono;refine jz (λm af N=>∃i S,m=lS d (fY d g) S+(l.length -i)/\af=[.ptr f 0,.slice (l.map c0.row) c,aa i]/\i<=l.length/\Pp d q g (fY d g) l f O Z Q ab Y ai M i S N/\S.B.length+2200*m<=100000000) _
  ⟨0,aq,rfl,rfl,c_ _,⟨λj u o=>⟨(aN j u (a0 o _)).1,(aN j u (a0 o _)).2⟩,bl,bM,bO,λs ae=>aJ (bP s) ae,λj x o=>aJ o (c9 _),λj a6 x y o=>aJ o (c9 _)⟩,J⟩ ?_;rintro m af N ⟨i,S,rfl,rfl,bu,t,b0⟩;refine aL bC ?_;apply cF<;>intro bY
 . refine ah ?_;obtain rfl:i=l.length:=J;refine⟨f,O,Z,Q,ab,Y,ai,S,rfl,t.q5,t.eV,t.ok,⟨t.eP,t.bD,λi k r e av=>?_⟩,J⟩;have b2:=(az.1 av.cV).1;have bn:de d i k r (r.aO[k]'J):=⟨av.cy,av.ds,cG J⟩;obtain⟨j,o⟩:=eb (T.all i k r _ e bn av);have:=t.nP j _ (az.1 o).1 o;simpa using this
 have bv:i<l.length:=J;obtain⟨x,am⟩:∃x,l[i]? =I x:=⟨l[i],cG bv⟩;have bL:=RY T c x.aR;refine bN am @c0.row.eq_1 ?_;refine d2 bL ?_;rintro v ⟨to,rfl,a5,aI⟩;have bw:i<to:=(aI i x am).2 (fS _);obtain⟨cb,aD,ba⟩:=t.eV.box;obtain⟨aX,oO⟩:=t.eV.Bw aD ad;obtain⟨a_,bJ⟩:=SN l c (Nat.le_of_lt bw) a5;have bA:(((l.drop i).take (to -i)).map c0.row).length=to -i:=by rw[cz,fh,kJ];omega
 have bs:∀k,k<to -i->((l.drop i).take (to -i))[k]? =l[i+k]? :=λk aw=>by rw[fT aw,h2]
 have ca:=aD;simp only[eZ] at aD aX oO;refine d0 @b5 aD bJ bA ?_;refine d4 (to -i) (λk af E=>∃p,af=[.ptr f 0,.slice (l.map c0.row) c,aa i,aa to,.slice (((l.drop i).take (to -i)).map c0.row) a_,aa ((to -i:Nat):Int),aa k]/\(∀(j:Nat)(u:List V),M[j]? =I (.box u)->j≠f/\E[j]? =I (.box u))/\eJ d q f O Z Q ab Y ai p E/\
  h6 d (fY d g) x.aR {S with fB:=ad} p/\hb d g (fY d g) p/\rQ d g p.P/\(∀s:Nat,(p.P s).rd≠-1->ma d p.P s (p.P s).rd)/\p.B.length<=S.B.length+61*k/\
  (p.fB=ad->∀(j:Nat)(y:c0),i<=j->j<i+k->l[j]? =I y->nC d p.P (λi=>(p.R i).cl) y.run.toNat y.cl.toNat)) ⟨_,rfl,λj u o=>⟨(t.q5 j u o).1,oO _ _ (t.q5 j u o).2 (t.q5 j u o).1 (oZ _)⟩,aX,.refl _ _ _ _,⟨t.ok.snd,t.ok.run⟩,t.eP,t.bD,by show S.B.length<=_;omega,λ_ j y H K=>aJ K J⟩ ?_ ?_
 . rintro k af E aw bz ⟨p,rfl,W,aj,ap,ay,aA,aC,bj,aK⟩;obtain⟨y,A⟩:∃y,l[i+k]? =I y:=⟨l[i+k]'J,cG J⟩;have bt:((l.drop i).take (to -i))[k]? =I y:=(bs k aw).trans A;obtain⟨bR,bS,bT,aQ,bQ,aF,aW,an⟩:=T.mem y (bI A);have bm:x.aR<=aQ.aR:=by
    have:y.aR=aQ.aR:=by rw[an]
    rw[<-this];rcases Nat.eq_zero_or_pos k with h|h
    . subst h;rw[g_,am] at A;cases A;exact fS _
    . exact T.BH i (i+k) x y J am A
   have aP:=RW F (q:=q) (q0:=g) (C:=fY d g) (f:=f) (bp:=O) (vp:=Z) (br:=Q) (vr:=ab) (rv:=Y) (xv:=ai) (aj.a1 [.box (c0.row y)]) aF aW ay (λi k r e h=>ZG h) aC J;rw[<-an] at aP;have bb:=λG=>cE E G;have bc:∀(B X:au)(G:Mem),(E++B::G).set E.length X=E++X::G:=λB X G=>hZ E B X G;simp only[c0.row] at aP;refine es bz bt @c0.row.eq_1 bb bc ?_;refine ch aP ?_;rintro v bX ⟨rfl,a9,D⟩;refine ah ?_;have bU:=D.st.low bm;refine bE aw ⟨a9,rfl,λj u o=>⟨(W j u o).1,D.bh _ _ (a0 (W j u o).2 _) (W j u o).1 (oZ _)⟩,D.eV,ap.trans bU,D.ok,D.st.st.imp.eP aA,D.bD,by have:=D.c4;omega,λax j z H K ao=>?_⟩;rcases eT j (i+k) with h|h
   . have bB:p.fB=ad:=by
      cases bi:p.fB
      . rfl
      . rw[D.st.vD bi] at ax;cases ax
     exact(aK bB j z H h ao).same (D.st.same ax) D.st.st.rd
   . obtain rfl:j=i+k:=J;rw[A] at ao;cases ao;have:=D.nP ax;rw[an];simpa using this
 rintro af E ⟨p,rfl,W,aj,ap,ay,aA,aC,bj,aK⟩;obtain⟨cc,a7,cd⟩:=aj.box;have a2:∀(j:Nat)(y:c0),j<i->l[j]? =I y->nC d p.P (λi=>(p.R i).cl) y.run.toNat y.cl.toNat:=λj y o A=>by obtain⟨bR,bS,bT,aQ,bQ,aF,aW,an⟩:=T.mem y (bI A);have H:=t.nP j y o A;have K:=t.K5 j i y x o (bk _) A am;rw[an] at H K⊢;simp only[dU] at H⊢;exact H.cj bF ap.st aF K
 have b8:=ap.w;have b9:lS d (fY d g) {S with fB:=ad}=lS d (fY d g) S:=rfl;simp only[eZ] at a7;refine b6 @bV @b5 a7 ?_;apply dt<;>intro aU
 . refine ah ?_;have b4:lS d (fY d g) p<lS d (fY d g) S:=by
    rcases ap.lt aU with h|h
    . cases h
    . exact h
   exact .inl ⟨_,(by omega:lS d (fY d g) p+(l.length -i)<lS d (fY d g) S+(l.length -i)),i,p,rfl,rfl,bu,⟨W,aj,ay,aA,aC,a2,t.K5⟩,J⟩
 . refine ah ?_;refine .inl ⟨_,(by omega:lS d (fY d g) p+(l.length -to)<lS d (fY d g) S+(l.length -i)),to,p,rfl,rfl,a5,⟨W,aj,ay,aA,aC,λj y o A=>?_,λj a6 y z o b1 A ao=>?_⟩,J⟩
   . rcases eT j i with h|h
     . exact a2 j y h A
     . exact aK aU j y h J A
   . have H:=(aI j y A).1 o;have K:¬z.aR<=x.aR:=λh=>by have:=(aI a6 z ao).2 h;omega
     omega
def Pq(n:ak)(q:aG)(v:V):Prop:=∃(S:eF)(c:cg),v=.tuple [.slice (nL n.aB.length S.P) c,v0]/\hb n q (fY n q) S/\th n q S.P (λi=>(S.R i).cl)
def RR(n:ak)(q:aG)(M:n.wf)(ok:di n)(al:ka n.aB.length q)(H:q.hE=ad){q0:aG}(A:q0.src=q.src)(C:q0.aM=q.aM)(D:q0.hc=q.hc)
 (F:bq aH 64 [.agg (c8 n q).row] (λv=>∃l c,tc (c8 n q) l/\v=.tuple [.slice (l.map c0.row) c,v0])):bq aH 12 [.agg n.row,.agg q.row] (Pq (c8 n q) q0):=by
 have t:=D0 n q M ok al H A C D F;have af:(c8 n q).aB.length<=5:=ok.aB;generalize c8 n q=d at*;refine bB HD ?_;simp only[ak.row,aG.row] at t;refine bN @ak.row.eq_1 @aG.row.eq_1 ?_;refine ch (t _) ?_;rintro v N ⟨f,x,Y,ab,ao,am,ap,S,rfl,ah,k,O,E,_⟩;obtain⟨ai,aD,ba⟩:=k.box;have L:=jZ (n:=d.aB.length) k.pl;simp only[eZ] at aD;refine b6 @b5 aD L ?_;refine d4 d.aB.length (λs p b=>∃l,p=[l,.an x Y 0 d.aB.length,aa d.aB.length,aa s]/\jk N b/\h4 N.length 1 b l (f7 s λs=>[aa (S.P s).aj])) ⟨.slice [] .nil,rfl,.refl _,.inl ⟨rfl,rfl⟩⟩ ?_ ?_
 . rintro s p b ae R ⟨l,rfl,m,j⟩;have Q:=m.trans (.a1 b [.box (m9 (S.P s))]);obtain⟨a,ver,Z,o,w,W⟩:=(j.pre (.a1 b [.box (m9 (S.P s))])).push Q (r:=[aa (S.P s).aj]) (bytes:=8) rfl (by rw[ep];omega);rw[ep] at o w;have y:=λG=>cE b G;have z:∀(B X:au)(G:Mem),(b++B::G).set b.length X=b++X::G:=λB X G=>hZ b B X G;have u:=m.2 _ _ k.pl;have J:(f1 d.aB.length S.P)[s]? =I [aa (S.P s).aj,aa (S.P s).rd,aa (S.P s).cn,aa (S.P s).fa,aa (S.P s).dl]:=g8 _ ae;have K:=e2 (n:=d.aB.length) (i:=s) u ae (by rw[f1,ep];exact bk _);simp only[m9] at o;refine mI R K u J y z o ?_;refine bE ae ⟨_,rfl,W,?_⟩;have e:(f7 (s+1) λs=>[V.int .i64 (S.P s).aj])=(f7 s λs=>[aa (S.P s).aj])++[[aa (S.P s).aj]]:=by simp[f7,List.range_succ]
   rw[e];exact w
 . rintro p b ⟨l,rfl,m,j⟩;obtain⟨c,T⟩:=j.pre (.refl _)|>λh=>(h:h4 N.length 1 b l _)|>λh=>h4.pO (g:=N.length) h 18;refine aL @bV ?_;rw[aX,uh];show hC ((eO (cY b 0 19) [l,v0]).map .tuple) _;have e:eO (cY b 0 19) [l,v0]=I [.slice (nL d.aB.length S.P) c,v0]:=by
    simp only[eO,T];rfl
   rw[e];exact⟨rfl,⟨S,c,rfl,O,E⟩,rfl,rfl⟩
def g5(L:List a7):Nat:=(L.filter λx=>x.bl&&!x.aT).length
def Ec(L:List a7)(x:a7):g5 (L++[x])=g5 L+if x.bl&&!x.aT then 1 else 0:=by rw[g5,List.filter_append,b0,g5];cases h:(x.bl&&!x.aT)<;>simp[h]
def SJ(L:List a7):g5 L.reverse=g5 L:=by rw[g5,List.filter_reverse,List.length_reverse,g5]
theorem SK{L:List a7}{x y:a7}(h:L[0]? =I x)(a:(y.bl&&!y.aT)=(x.bl&&!x.aT)):g5 (L.set 0 y)=g5 L:=by
 cases L with
 |nil=>rfl
 |cons z L=>cases h;simp only[List.set_cons_zero,g5,List.filter_cons,a];cases(x.bl&&!x.aT)<;>rfl
theorem SL{B:List (a7×Int)}{l:Int}{r:Nat}(h:hn B l r):l=-1∨∃(k:Nat)(x:a7)(p:Int)(a:Nat),l=k/\B[k]? =I (x,p)/\p<k/\hn B p a/\r=a+if x.bl&&!x.aT then 1 else 0:=by
 cases h with
 |nil=>exact .inl rfl
 |cons b c d=>exact .inr ⟨_,_,_,_,rfl,b,c,d,rfl⟩
def ZA{zero:List V}{sz bytes n:Nat}{M:Mem}(f:n<=1000000000000)(e:n*bytes<=281474976710656):jq zero sz bytes (aa (n:Int)) (aa (n:Int)) M=I (.an M.length 0 0 n,M++[.aj sz (f7 n λ_=>zero) 0 0]):=by
 have a:decide (0<=(n:Int))=U:=bR;have b:decide ((n:Int)<=(n:Int))=U:=bR;have c:decide ((n:Int)*((bytes:Nat):Int)<=2^48)=U:=be (by
  have:(n:Int)*(bytes:Int)=((n*bytes:Nat):Int):=by simp
  rw[this];omega);have d:decide ((n:Int)<2^62)=U:=bR;simp only[jq,a,b,c,d,cR,bi,dU,vR]
def h4.len{g c:Nat}{N:Mem}{x:V}{R:List (List V)}(h:h4 g c N x R):eY x N=I (aa R.length):=by
 rcases h with⟨rfl,rfl⟩|⟨a,ver,_,rfl,b,_⟩
 . rfl
 . exact jZ b
theorem h4.copy{g f n b:Nat}{N:Mem}{x:V}{R S:List (List V)}(h:h4 g f N x R)(k:N[b]? =I (.aj f S 0 0))(i:R.length=n)(j:S.length=n):∃c,kr f (.an b 0 0 n) x N=I (c,N.set b (.aj f R 0 0)):=by
 rcases h with⟨rfl,rfl⟩|⟨a,ver,_,rfl,l,_⟩
 . simp only[eu] at i;subst i;have e:S=[]:=lY.1 j;subst e;have d:decide (0+0<=([]:List (List V)).length)=U:=rfl;simp only[kr,dg,dP,bi,k,beq_self_eq_true,d,bk,decide_true,cR,List.take_nil];exact⟨_,rfl⟩
 . subst i;exact Eg k l j rfl
def h4.px{g b:Nat}{N:Mem}{x:V}{R:List (List V)}(h:h4 g b N x R){i:Nat}{r:List V}(c:R[i]? =I r)(e:r.length=b):∃E,d8 b x (aa (i:Int)) N=I E/\dZ b U E N=I (.agg r):=by
 rcases h with⟨_,rfl⟩|⟨a,ver,_,rfl,d,_⟩
 . simp at c
 . exact⟨_,e2 d (az.1 c).1 (bk _),lI d c e⟩
def nm(B:List a7)(j:Nat):List (List V):=f7 B.length λi=>if B.length<=i+j then((B.map a7.row)[B.length -1 -i]?.getD []) else((B.map a7.row)[i]?.getD [])
theorem abG(B:List a7):nm B 0=B.map a7.row:=by refine(v1 (by simp) λi a=>?_).symm;rw[ax J,dK,cG a];rfl
theorem abD(B:List a7):nm B B.length=B.reverse.map a7.row:=by refine(v1 (by simp) λi a=>?_).symm;rw[aF J,dK,List.getElem?_reverse a,dK,cG J];rfl
def abF{B:List a7}{j:Nat}{y:a7}(b:B[j]? =I y):(nm B j).set (B.length -1 -j) y.row=nm B (j+1):=by
 have d:=(az.1 b).1;rw[nm,v2];refine uq λi c=>?_;by_cases h:i=B.length -1 -j
 . subst h;rw[fq,aF J,show B.length -1 -(B.length -1 -j)=j by omega,dK,b];rfl
 . rw[hy _ _ h];by_cases a:B.length<=i+j
   . rw[aF a,aF J]
   . rw[ax a,ax J]
def abE{B:List a7}{j i:Nat}(a:i<B.length):∃y:a7,(nm B j)[i]? =I y.row:=by
 rw[nm,g8 _ a];by_cases h:B.length<=i+j
 . rw[aF h,dK,cG J];exact⟨_,rfl⟩
 . rw[ax h,dK,cG a];exact⟨_,rfl⟩
def RV{n:ak}{q:aG}{f aP bm aS bn:Nat}{bj bp:V}{S:eF}{M:Mem}(H:eJ n q f aP bm aS bn bj bp S M)(bz:S.B.length<=10000000000){l:Int}{r:Nat}(aF:hn S.B l r):
 bx aH 30 [.ptr f 0,aa l] M (λv N=>∃(a ver:Nat)(L:List a7),v=.agg [.an a ver 0 L.length]/\N[a]? =I (.aj 9 (L.map a7.row) ver 0)/\(g5 L=r/\L.length<=10000000000)/\jk M N):=by
 obtain⟨bF,aD,ba⟩:=H.box;have al:=λL=>a0 aD L;have aU:∀G:Mem,(M++G)[M.length]? =G[0]? :=λG=>cE M G;refine dX V_ ?_;simp only[eZ] at aD al;simp only[dN];refine ah ?_;refine jz (λm w N=>∃(D:Int)(F:Nat)(x:V)(B:List a7),m=(D+1).toNat/\w=[.ptr f 0,aa D,.ptr M.length 0,x]/\hn S.B D F/\g5 B+F=r/\(B.length:Int)+D<=l/\jk (M++[.box [.slice [] .nil]]) N/\h4 (M++[au.box [.slice [] .nil]]).length 9 N x (B.map a7.row)) _ ⟨l,r,_,[],rfl,rfl,aF,by simp[g5],by simp,.refl _,.inl ⟨rfl,rfl⟩⟩ ?_;rintro m w N ⟨D,F,x,B,rfl,rfl,W,bg,aV,u,t⟩;have a2:=W.lt;have bA:=aF.lt;have ay:=u.2 _ _ (al _);have s:(B.map a7.row).length=B.length:=cz _;refine ah ?_;apply cF<;>intro aq
 . rcases SL W with h|⟨k,y,p,bi,rfl,C,bB,aZ,bD⟩
   . exact aJ h aq
   have aE:=(az.1 C).1;rcases ba with⟨_,e⟩|⟨bq,bG,rfl,av,_⟩
   . have:=congrArg List.length e;simp only[cz,eu] at this;omega
   have aw:=u.2 _ _ (a0 av [.box [.slice [] .nil]]);have a5:(S.B.map tW)[k]? =I [.bool y.bl,aa y.run,aa y.cM,aa y.ct,aa y.src,aa y.dst,aa y.aR,aa y.aQ,.bool y.aT,aa p]:=by rw[dK,C];rfl
   have aI:(S.B.map tW).length=S.B.length:=cz _;have bc:=e2 (n:=S.B.length) aw aE J;rw[aI] at ay;obtain⟨a,ver,a8,am,ao,ap⟩:=t.push u (r:=y.row) (bytes:=72) rfl (by rw[s];omega);rw[s] at am ao;have aA:=ap.2 _ _ (al [.box [.slice [] .nil]]);have ax:=ap.2 _ _ (a0 av [.box [.slice [] .nil]]);have bd:=e2 (n:=S.B.length) ax aE J;rw[aI] at aA;simp only[a7.row] at am;refine og @b5 ay bc aw a5 am aA bd ax ?_;refine .inl ⟨_,(by omega:(p+1).toNat<((k:Int)+1).toNat),p,bi,_,B++[y],rfl,rfl,aZ,?_,?_,ap,?_⟩
   . rw[Ec];omega
   . simp only[b0,hP];omega
   . rw[iL];rw[b0] at ao;exact ao
 subst aq;have bC:F=0:=by
  cases W with
  |nil=>rfl
 have af:=t.len;rw[s] at af;have aK:=ZA (zero:=[.bool ad,v0,v0,v0,v0,v0,v0,v0,.bool ad]) (sz:=9) (bytes:=72) (M:=N) (n:=B.length) J J;obtain⟨br,Y⟩:=(t.pre (.a1 N [.aj 9 (f7 B.length λ_=>[.bool ad,v0,v0,v0,v0,v0,v0,v0,.bool ad]) 0 0])).copy (b:=N.length) (n:=B.length) (by rw[cE];rfl) s (ep _ _);rw[hZ,<-abG] at Y;have ai:∀R:List (List V),eY x (N++[.aj 9 R 0 0])=I (aa B.length):=λR=>by have:=(t.pre (.a1 N [.aj 9 R 0 0])).len;rwa [s] at this
 refine d0 af aK Y ai ?_;refine d4 B.length (λj w O=>w=[.ptr M.length 0,x,.an N.length 0 0 B.length,aa B.length,aa j]/\O=N++[.aj 9 (nm B j) 0 0]) ⟨rfl,rfl⟩ ?_ ?_
 . rintro j w O A a3 ⟨rfl,rfl⟩;obtain⟨y,C⟩:∃y,B[j]? =I y:=⟨B[j],cG A⟩;obtain⟨E,aW,ar⟩:=(t.pre (.a1 N [.aj 9 (nm B j) 0 0])).px (i:=j) (r:=y.row) (by rw[dK,C];rfl) rfl;obtain⟨z,aO⟩:=abE (B:=B) (j:=j) (i:=B.length -1 -j) J;have em:((B.length:Nat):Int) -1 -(j:Int)=((B.length -1 -j:Nat):Int):=J;have g:(N++[au.aj 9 (nm B j) 0 0])[N.length]? =I (.aj 9 (nm B j) 0 0):=by rw[cE];rfl
   have ae:(nm B j).length=B.length:=ep _ _;have a6:=e2 (n:=B.length) (i:=B.length -1 -j) g J J;have aM:=abF C;have P:∀(B X:au)(G:Mem),(N++B::G).set N.length X=N++X::G:=λB X G=>hZ N B X G;simp only[a7.row] at ar aO aM;simp-implicitDefEqProofs (disch:=omega) only[go_sem,a3,ai,em,aW,ar,a6,g,aO,P,aM];exact bE A ⟨rfl,rfl⟩
 rintro w O ⟨rfl,rfl⟩;rw[abD];have Z:g5 B.reverse=r:=by rw[SJ];omega
 have ae:B.reverse.length=B.length:=List.length_reverse;have bv:B.reverse.length<=10000000000:=J;rw[<-ae];clear bg aV t s aK Y af ai a2 ae;generalize B.reverse=L at*;have bu:M.length<N.length:=by have:=u.1;simp only[b0,hP] at this;omega
 have g:∀R:List (List V),(N++[au.aj 9 R 0 0])[N.length]? =I (.aj 9 R 0 0):=λR=>by rw[cE];rfl
 have T:∀R:List (List V),(N++[au.aj 9 R 0 0])[M.length]? =I (.box [.slice [] .nil]):=λR=>a0 (u.2 _ _ (aU _)) _;have ab:∀o:List a7,o.length=L.length->g5 o=r->∃(a ver:Nat)(K:List a7),V.agg [.an N.length 0 0 L.length]=.agg [.an a ver 0 K.length]/\((N++[au.aj 9 (o.map a7.row) 0 0]).set M.length (.box [.an N.length 0 0 L.length]))[a]? =I (.aj 9 (K.map a7.row) ver 0)/\(g5 K=r/\K.length<=10000000000)/\jk M ((N++[au.aj 9 (o.map a7.row) 0 0]).set M.length (.box [.an N.length 0 0 L.length])):=λo be aY=>by
  refine⟨N.length,0,o,by rw[be],?_,⟨aY,J⟩,⟨?_,λj B A=>?_⟩⟩
  . rw[bo J];exact g _
  . rw[cW,b0];omega
  . have bw:=(az.1 A).1;rw[bo J];exact a0 (u.2 _ _ (a0 A _)) _
 have bf:∀R:List (List V),eY (.an N.length 0 0 L.length) (N++[.aj 9 R 0 0])=I (aa L.length):=λR=>jZ (g R);have P:∀(B X:au)(G:Mem),(N++B::G).set N.length X=N++X::G:=λB X G=>hZ N B X G;have Q:∀(R:List (List V))(X:au),((N++[au.aj 9 R 0 0]).set M.length X)[M.length]? =I X:=λR X=>bY (by rw[b0];omega);have aL:(L.map a7.row).length=L.length:=cz _;refine bN @bV bf ?_;apply cF<;>intro bs
 . refine bN T Q ?_;exact ab L rfl Z
 obtain⟨c,aN⟩:∃x,L[0]? =I x:=⟨L[0]'J,cG J⟩;obtain⟨d,bh⟩:∃x,L[1]? =I x:=⟨L[1]'J,cG J⟩;have a9:∀R:List (List V),R.length=L.length->d8 9 (.an N.length 0 0 L.length) v0 (N++[.aj 9 R 0 0])=I (.df N.length 0 0 0):=λR aX=>e2 (i:=0) (g R) J J;have a_:∀R:List (List V),R.length=L.length->d8 9 (.an N.length 0 0 L.length) (aa 1) (N++[.aj 9 R 0 0])=I (.df N.length 0 1 0):=λR aX=>e2 (i:=1) (g R) J J;have aB:(L.map a7.row)[0]? =I [.bool c.bl,aa c.run,aa c.cM,aa c.ct,aa c.src,aa c.dst,aa c.aR,aa c.aQ,.bool c.aT]:=by rw[dK,aN];rfl
 have a4:(L.map a7.row)[1]? =I [.bool d.bl,aa d.run,aa d.cM,aa d.ct,aa d.src,aa d.dst,aa d.aR,aa d.aQ,.bool d.aT]:=by rw[dK,bh];rfl
 have aC:=a9 (L.map a7.row) aL;have bb:=a_ (L.map a7.row) aL;refine b6 aC g aB ?_;apply dt<;>intro bt
 . refine bN T Q ?_;exact ab L rfl Z
 have bk:∀x:List V,((L.map a7.row).set 0 x)[0]? =I x:=λx=>bY J;simp-implicitDefEqProofs (disch:=omega) only[go_sem,aC,bb,g,aB,a4,g7,P,bk,h3,T,Q];have:=ab (L.set 0 ⟨c.bl,c.run,c.cM,c.ct,c.src,c.dst,IntKind.i64.wrap (d.aR -IntKind.i64.wrap (c.aQ -c.aR)),d.aR,c.aT⟩) cW (by refine(SK aN ?_).trans Z;rfl);rw[List.map_set] at this;exact this
def uD(n:ak)(q:aG)(v:V):Prop:=∃S:eF,hb n q (fY n q) S/\th n q S.P (λi=>(S.R i).cl)/\((q.src=q.dst/\v=.tuple [.agg [.slice [] .nil],v0])∨(q.src≠q.dst/\(S.P q.dst.toNat).aj=-1/\v=.tuple [.agg [.slice [] .nil],aa 23])∨
 (q.src≠q.dst/\(S.P q.dst.toNat).aj≠-1/\∃(L:List a7)(c:cg),v=.tuple [.agg [.slice (L.map a7.row) c],v0]/\L.length<=10000000000/\fU n q (g5 L) q.dst (S.P q.dst.toNat).aj))
def RS(n:ak)(q:aG)(aA:n.wf)(ok:di n)(al:ka n.aB.length q)(am:q.hE=ad){q0:aG}(j:q0.src=q.src)(W:q0.aM=q.aM)(Y:q0.hc=q.hc)(g:q0.dst=q.dst)
 (ae:bq aH 64 [.agg (c8 n q).row] (λv=>∃l c,tc (c8 n q) l/\v=.tuple [.slice (l.map c0.row) c,v0])):bq aH 13 [.agg n.row,.agg q.row] (uD (c8 n q) q0):=by
 have K:=D0 n q aA ok al am j W Y ae;have x:0<=q.dst/\q.dst<(c8 n q).aB.length:=al.dst;generalize c8 n q=d at*;refine bB V8 ?_;simp only[ak.row,aG.row] at K;refine bN @ak.row.eq_1 @aG.row.eq_1 ?_;refine ch (K _) ?_;rintro v N ⟨f,i,o,aO,aS,aR,aT,S,rfl,M,w,k,t,aP⟩;have y:=M 1 _ rfl;have z:=M 2 _ rfl;have bP:∀X:au,(N.set 2 X)[2]? =I X:=λX=>bY (az.1 z.2).1;refine aL y.2 ?_;apply aW<;>intro p
 . refine bN z.2 bP ?_;exact⟨S,k,t,.inl ⟨j.trans (p.trans g.symm),rfl⟩⟩
 obtain⟨aQ,aD,ba⟩:=w.box;have m:=w.pl;have ar:(f1 d.aB.length S.P)[q.dst.toNat]? =I [aa (S.P q.dst.toNat).aj,aa (S.P q.dst.toNat).rd,aa (S.P q.dst.toNat).cn,aa (S.P q.dst.toNat).fa,aa (S.P q.dst.toNat).dl]:=g8 _ J;have av:d8 5 (.an i o 0 d.aB.length) (aa q.dst) N=I (.df i o q.dst.toNat 0):=by have:=e2 (n:=d.aB.length) m (by omega:q.dst.toNat<d.aB.length) (by rw[f1,ep];exact bk _);rwa [fr x.1] at this
 have aw:∀G:Mem,d8 5 (.an i o 0 d.aB.length) (aa q.dst) (N++G)=I (.df i o q.dst.toNat 0):=λG=>by have:=e2 (n:=d.aB.length) (a0 m G) (by omega:q.dst.toNat<d.aB.length) (by rw[f1,ep];exact bk _);rwa [fr x.1] at this
 have O:=λL=>a0 aD L;have aE:=λL=>a0 m L;have E:=λG=>cE N G;have T:∀(B X:au)(G:Mem),(N++B::G).set N.length X=N++X::G:=λB X G=>hZ N B X G;have aJ:=λL=>a0 y.2 L;have A:=λL=>a0 z.2 L;simp only[eZ] at aD O;simp-implicitDefEqProofs (disch:=omega) only[go_sem,b5,aD,y.2,av,aw,m,aE,ar,E,T,aJ,O];apply aW<;>intro s
 . have aK:∀G X,((N++G).set 2 X)[2]? =I X:=λG X=>bY (az.1 (A G)).1;refine bN A aK ?_;exact⟨S,k,t,.inr (.inl ⟨λh=>p (j.symm.trans (h.trans g)),by rw[g];exact s,rfl⟩)⟩
 obtain⟨_,_,_,r,aF,F⟩:=(k.snd q.dst.toNat).1 s;have ax:=RV (w.a1 [.box [aa (S.P q.dst.toNat).aj,aa (S.P q.dst.toNat).rd,aa (S.P q.dst.toNat).cn,aa (S.P q.dst.toNat).fa,aa (S.P q.dst.toNat).dl]]) J aF;obtain⟨Q,H⟩:∃Q,Q=iT [.cell 4 1 U,.tmp 5] (sF 0 λv R=>uD d q0 v/\R=[]/\V.under 0 v=U):=⟨_,rfl⟩;rw[<-H];refine aL E ?_;refine ch ax ?_;rintro v b ⟨a,ver,L,rfl,u,⟨ao,af⟩,aC⟩;have C:=aC.2 _ _ (A _);have aN:∀X:au,(b.set 2 X)[2]? =I X:=λX=>bY (az.1 C).1;have ai:a≠2:=λe=>by rw[e,C] at u;cases u
 have aq:∀X:au,cY (b.set 2 X) 0 20 (.tuple [.agg [.an a ver 0 L.length],v0])=I (.tuple [.agg [.slice (L.map a7.row) .bF],v0]):=λX=>by
  have Z:cY (b.set 2 X) 0 18 (.an a ver 0 L.length)=I (.slice (L.map a7.row) .bF):=by
   have ap:decide (0+L.length<=(L.map a7.row).length)=U:=be (by simp);have ah:(b.set 2 X)[a]? =I (.aj 9 (L.map a7.row) ver 0):=by rw[bo (cA ai)];exact u
   simp only[cY,ah,decide_eq_false (c9 a),eE,beq_self_eq_true,ap,cR,bi,hN,eS (Nat.le_of_eq (cz a7.row):(L.map a7.row).length<=L.length)]
  show(eO (cY (b.set 2 X) 0 19) [.agg [.an a ver 0 L.length],v0]).map V.tuple=_;have ab:cY (b.set 2 X) 0 19 (.agg [.an a ver 0 L.length])=I (.agg [.slice (L.map a7.row) .bF]):=by show(eO (cY (b.set 2 X) 0 18) [.an a ver 0 L.length]).map V.agg=_;simp only[eO,Z];rfl
  simp only[eO,ab];rfl
 refine aL C ?_;rw[H];have ay:dZ 1 U (.ptr 2 0) (b.set 2 (.box [.an a ver 0 L.length]))=I (.agg [.an a ver 0 L.length]):=by simp only[dZ,aN];rfl
 have aI:lQ [(4,V.ptr 2 0),(5,V.int .i64 0)] (b.set 2 (.box [.an a ver 0 L.length])) [.cell 4 1 U,.tmp 5]=I (.tuple [.agg [.an a ver 0 L.length],v0]):=by show(match(match(dZ 1 U (.ptr 2 0) (b.set 2 (.box [.an a ver 0 L.length]))),(I [V.int .i64 0]) with|some v,I D=>I (v::D)|_,_=>ag) with|some [v]=>I v|some D=>I (V.tuple D)|none=>ag)=_;rw[ay]
 simp only[iT,aI];show hC (cY (b.set 2 (.box [.an a ver 0 L.length])) 0 20 (.tuple [.agg [.an a ver 0 L.length],v0])) _;rw[aq];refine⟨rfl,⟨S,k,t,.inr (.inr ⟨λh=>p (j.symm.trans (h.trans g)),by rw[g];exact s,L,.bF,rfl,af,?_⟩)⟩,rfl,rfl⟩;rw[ao,g];rw[fr x.1] at F;exact F
instance:Inhabited c0:=⟨⟨0,0,0,0,0,0⟩⟩
def ks(x:c0):List Value:=[.int .i64 x.run,.int .i64 x.cl,.int .i64 x.src,.int .i64 x.dst,.int .i64 x.aR,.int .i64 x.aQ]
def uV(x y:c0):Int:=Go.Proofs.Tryz.cmp6 (x.run,x.cl,x.src,x.dst,x.aR,x.aQ) (y.run,y.cl,y.src,y.dst,y.aR,y.aQ)
def xw(x y:c0):Go.Proofs.ltOf uV x y=U↔(x.aR<y.aR∨x.aR=y.aR/\(x.aQ<y.aQ∨x.aQ=y.aQ/\(x.run<y.run∨x.run=y.run/\x.cl<y.cl))):=by
 rw[Go.Proofs.ltOf,decide_eq_true_iff];simp only[uV,Go.Proofs.Tryz.cmp6]
 repeat' split
 all_goals omega
def adh:Go.Sort.SWO (Go.Proofs.ltOf uV) where
 irrefl x:=by rw[<-Bool.not_eq_true,xw];omega
 trans x y z a b:=by rw[xw] at*;omega
 ntrans x y z a b:=by rw[<-Bool.not_eq_true,xw] at*;omega
def SF(a off size:Nat)(w:World):Go.Proofs.CmpLays aH 117 #[] ks 6 uV a off size w:=λm c b _ x y=>Go.Proofs.Tryz.compare_walk x.run x.cl x.src x.dst x.aR x.aQ y.run y.cl y.src y.dst y.aR y.aQ _
def Ext.grow{w:World}{Γ:ao.Env}{M:Mem}(h:Good w Γ M)(a:Array Obj):Ext w Γ (Go.Sort.grow w a) Γ where
 s b o ae:=⟨ae,qb (Array.getElem?_append_left (h.np ae))⟩
 cf i l c:=⟨l,c,bk _,λ_=>rfl,λ_=>rfl⟩
 ek:=rfl
 below:=⟨rfl,rfl,rfl,by show w.heap.size<=(w.heap++a).size;simp,λk d=>Array.getElem?_append_left (by have:=h.bf;omega)⟩
 nr b o _ ae:=ae
def Good.grow{w:World}{Γ:ao.Env}{M:Mem}(h:Good w Γ M)(a:Array Obj):Good (Go.Sort.grow w a) Γ M where
 len:=h.len
 dI i l B d e:=(h.dI i l B d e).cj (Ext.grow h a) (λc=>Array.getElem?_append_left (h.j0 d c)) (λ_ _ h=>h)
 ek:=h.ek
 inj:=h.inj
 hx b o ae:=by obtain⟨v,c⟩:=h.hx b o ae;exact⟨v,((Ext.grow h a).ij b o ae).2.trans c⟩
 bf:=fJ h.bf (Ext.grow h a).below.size
 mH:=h.rn (Ext.grow h a)
def Ed(l:List c0)(i j:Nat)(x:c0)(a:l[i]? =I x)(f:j<6):(Go.Sort.flatK ks 6 l.toArray)[i*6+j]! =(ks x)[j]!:=by
 have e:=(az.1 a).1;rw[Go.Sort.get_flatK ks 6 l.toArray (i*6+j) (by show _<l.length*6;omega)];have b:(i*6+j)/6=i:=J;have c:(i*6+j)%6=j:=J;have d:l.toArray[i]! =x:=by rw[getElem!_pos l.toArray i (by simpa using e)];have:=(az.1 a).2;simpa using this
 rw[b,c,d]
theorem Bn(x:c0):∀k,k<6->∃z,(c0.row x)[k]? =I (.int .i64 z)/\(ks x)[k]! =.int .i64 z
 |0,_=>⟨_,rfl,rfl⟩
 |1,_=>⟨_,rfl,rfl⟩
 |2,_=>⟨_,rfl,rfl⟩
 |3,_=>⟨_,rfl,rfl⟩
 |4,_=>⟨_,rfl,rfl⟩
 |5,_=>⟨_,rfl,rfl⟩
 |k+6,h=>aJ h J
theorem acR{M:Mem}{a ver:Nat}{l:List c0}(aE:M[a]? =I (.aj 6 (l.map c0.row) ver 0))(bb:0<l.length)(bc:l.length<=1000):
 bx aH 116 [.an a ver 0 l.length,.cI 117 []] M (λv N=>v=.tuple []/\∃E:List c0,E.Perm l/\(∀(x y:Nat)(c d:c0),x<y->E[x]? =I c->E[y]? =I d->c.aR<=d.aR)/\N=M.set a (.aj 6 (E.map c0.row) ver 0)):=by
 refine⟨by kernel_rfl,λw Γ p B aG=>?_⟩;obtain⟨aW,ai⟩:=aG;have V:=ai 0 _ rfl;have t:=ai 1 _ rfl;generalize aX:p.getD 0 undef=v0 at V;generalize aY:p.getD 1 undef=gz at t;cases t with
 |cI _ _ aq aN _ _=>
 cases V with
 |an _ _ _ _ g C bd _ aV _=>
 have aC:=B.dI a g _ C aE;obtain⟨a5,s,am,bf,ao,a6,bg,bh,a7⟩:=aC;rcases aV am with⟨_,e,_⟩|⟨K,bi,o,cap,rfl,bj,bk,a8⟩
 . omega
 obtain⟨ap,c,T,bP,R,a9⟩:=a7 K;have L:o=0:=by rw[a8 J];omega
 subst L;have aP:aq=#[]:=Array.eq_empty_of_size_eq_zero aN;subst aP;have aK:p=#[.slice (I ⟨g.b,0,ag⟩) l.length cap,.func (.func 117) #[] #[]]:=by
  refine Array.ext (by rw[aW];rfl) λi ab aT=>?_;have u:i=0∨i=1:=by simp at aT;omega
  rcases u with rfl|rfl
  . have:p.getD 0 undef=p[0]:=by simp[Array.getD,ab]
    rw[<-this,aX];rfl
  . have:p.getD 1 undef=p[1]:=by simp[Array.getD,ab]
    rw[<-this,aY];rfl
 subst aK;have aM:∀(i k:Nat)(x:c0),l[i]? =I x->k<6->c[i*6+k]? =I ((ks x)[k]!):=λi k x u H=>by
  obtain⟨z,A,S⟩:=Bn x k H;have af:=(az.1 u).1;have m:=a9 i (c0.row x) k (.int .i64 z) (by rw[dK,u];rfl) A;have m:=ih m;rw[s] at m;rw[S,<-m];have G:i*6+k<c.size:=by rw[R,s];have:l.length<=g.cap:=J;have:(i+1)*6<=g.cap*6:=hj 6 J;omega
  simp[G]
 have aD:Go.Sort.HoldsK ks 6 w g.b 0 l.toArray:=λj q=>by
  rw[Go.Sort.size_flatK] at q;have ba:j<l.length*6:=q;have af:j/6<l.length:=J;have n:l[j/6]? =I l[j/6]:=cG af;have aw:j/6*6+j%6=j:=J;have t:=aM (j/6) (j%6) _ n J;have W:=Ed l (j/6) (j%6) _ n J;rw[aw] at t W;refine⟨?_,?_⟩
  . rw[dm,iy bP,t,W];rfl
  . simp only[World.frozen?,bP];simp
 have aJ:=B.j0 C K;have av:∀args w,(callFunc 117 args).run aH w=.ok (.enter 117 args) w:=Go.Proofs.enters_of Go.Proofs.Tryz.func117 (by kernel_rfl) rfl;have aO:=Go.Proofs.AnyQ.slices_SortFunc Go.Proofs.Tryz.sortCon 6 Go.Proofs.Tryz.isAgg177 Go.Proofs.Tryz.sizeOf177 ks (λ_=>rfl) (λx v ak=>by simp[ks] at ak;rcases ak with rfl|rfl|rfl|rfl|rfl|rfl<;>rfl) uV adh 117 #[] g.b 0 cap l.toArray w av (SF g.b 0 l.toArray.size w) aD aJ (by show l.length<_;omega);refine aO.mono ?_;rintro e bl ⟨rfl,f,F,al,ah,ae,rfl⟩;have O:f.size=l.length:=ah.1;have aU:f.toList.Perm l:=by
  have h:=ah.2.2;have ar:f.extract 0 l.toArray.size=f:=by rw[show l.toArray.size=f.size from O.symm];simp
  have au:l.toArray.extract 0 l.toArray.size=l.toArray:=by simp
  rw[ar,au] at h;simpa using h
 have aa:∀k,k≠g.b->(Go.Sort.putRowK ks 6 (Go.Sort.ahead w F) g.b 0 f).heap[k]? =w.heap[k]? :=λk H=>by simp only[Go.Sort.putRowK,Go.Sort.putRow,Go.Sort.mapBlock,Go.Sort.ahead];rw[Array.getElem?_modify,ax (λh=>H h.symm)]
 have aS:(Go.Sort.putRowK ks 6 (Go.Sort.ahead w F) g.b 0 f).heap[g.b]? =I (.cells (Go.Sort.putCells id 0 (Go.Sort.flatK ks 6 f) c) T (0,0)):=by simp only[Go.Sort.putRowK,Go.Sort.putRow,Go.Sort.mapBlock,Go.Sort.ahead];rw[Array.getElem?_modify,aF rfl,bP];rfl
 have Y:Ext w Γ (Go.Sort.putRowK ks 6 (Go.Sort.ahead w F) g.b 0 f) Γ:=Ext.write B C aa (by simp[Go.Sort.putRowK,Go.Sort.putRow,Go.Sort.mapBlock,Go.Sort.ahead]) rfl rfl rfl (λo L=>by have:=(ap o).1 L;omega);have aB:pn (Go.Sort.putRowK ks 6 (Go.Sort.ahead w F) g.b 0 f) Γ g (.aj 6 (f.toList.map c0.row) ver 0):=by
  refine⟨a5,s,am,c_ _,?_,a6,?_,?_,λ_=>⟨ap,_,T,aS,?_,?_⟩⟩
  . rw[cz] at ao⊢;rw[Array.length_toList,O];exact ao
  . intro i r m;rw[dK] at m;obtain⟨x,_,rfl⟩:=cL.1 m;rw[s];rfl
  . intro i r j x m n;rw[dK] at m;obtain⟨y,_,rfl⟩:=cL.1 m;have q:j<6:=(az.1 n).1;obtain⟨z,A,_⟩:=Bn y j q;rw[A] at n;obtain rfl:=mN n;rfl
  . simp[Go.Sort.putCells,R]
  . intro i r j x m n;rw[dK] at m;obtain⟨y,D,rfl⟩:=cL.1 m;have q:j<6:=(az.1 n).1;have u:i<f.size:=by
     have:=(az.1 D).1;simpa using this
    obtain⟨z,A,S⟩:=Bn y j q;rw[A] at n;obtain rfl:=mN n;have X:=Ed f.toList i j y D q;rw[Array.toArray_toList,S] at X;rw[s];have G:i*6+j<c.size:=by rw[R,s];have:(i+1)*6<=g.cap*6:=hj 6 J;omega
    have aI:i*6+j<f.size*6:=J;have a_:i*6+j<(Go.Sort.flatK ks 6 f).size:=by rw[Go.Sort.size_flatK];exact aI
    have aL:c[i*6+j]? =I c[i*6+j]:=Array.getElem?_eq_getElem G;have e:(Go.Sort.putCells id 0 (Go.Sort.flatK ks 6 f) c).getD (i*6+j) undef=.int .i64 z:=by rw[gL];simp only[Go.Sort.putCells,Array.getElem?_mapIdx,aL,jE,nz];rw[aF ⟨J,J⟩];exact X
    rw[e];exact .int .i64 z
 have Z:=B.write C K Y aa aB;have aQ:=Ext.grow Z al;refine⟨.tuple [],.tuple #[],Γ,_,rfl,⟨rfl,f.toList,aU,λx y c1 c2 a1 n D=>?_,rfl⟩,.tuple [] #[] rfl (λj x h=>by simp at h),Good.grow Z al,Y.trans aQ⟩;have aZ:=(az.1 n);have a2:=(az.1 D);obtain⟨be,a0⟩:=aZ;obtain⟨a3,a4⟩:=a2;have Q:y<f.size:=by simpa using a3
 have P:=ae x y (c_ _) a1 (by rw[show l.toArray.size=f.size from O.symm];exact Q);rw[getElem!_pos f y Q,getElem!_pos f x J] at P;have ay:f[x]'J=c1:=by simpa using a0
 have aA:f[y]'Q=c2:=by simpa using a4
 rw[ay,aA] at P;rw[<-Bool.not_eq_true,xw] at P;omega
def acS(M:Mem):bx aH 116 [.slice [] .nil,.cI 117 []] M (λv N=>v=.tuple []/\N=M):=by
 refine⟨by kernel_rfl,λw Γ a q m=>?_⟩;obtain⟨t,g⟩:=m;have d:=g 0 _ rfl;have l:=g 1 _ rfl;generalize y:a.getD 0 undef=v0 at d;generalize z:a.getD 1 undef=gz at l;have key:∀(p:Option Addr)(cap:Nat)(c:Value),Calls aH (116) #[.slice p 0 cap,c] w λe k=>e=.returned (.tuple #[])/\k=w:=λp cap c=>
  Go.Proofs.AnyF.slices_SortFunc_none (P:=aH) (ρ:=Go.Proofs.Tryz.sortCon_ren) {Go.Proofs.Tryz.sortCon with} p cap c w;obtain⟨p,cap,u⟩:∃p cap,v0=.slice p 0 cap:=by
  cases d with
  |hf _ _=>exact⟨_,_,rfl⟩
  |jv _ _ p=>exact⟨_,_,rfl⟩
  |slice _ _ b o E cap A B D C=>exact⟨_,_,rfl⟩
 have n:a=#[.slice p 0 cap,gz]:=by
  refine Array.ext (by rw[t];rfl) λi f s=>?_;have r:i=0∨i=1:=by simp at s;omega
  rcases r with rfl|rfl
  . have:a.getD 0 undef=a[0]:=by simp[Array.getD,f]
    rw[<-this,y,u];rfl
  . have:a.getD 1 undef=a[1]:=by simp[Array.getD,f]
    rw[<-this,z];rfl
 rw[n];refine(key p cap gz).mono ?_;rintro e k ⟨rfl,rfl⟩;exact⟨.tuple [],.tuple #[],Γ,M,rfl,⟨rfl,rfl⟩,.tuple [] #[] rfl (λj x h=>by simp at h),q,.refl _ _⟩
def wY(r:aV)(i k:Nat):c0:=
 match r.aO[k]?,r.aO[k+1]? with
 |some a,I e=>⟨i,k,a.stop,e.stop,a.aR,e.aQ⟩
 |_,_=>⟨0,0,0,0,0,0⟩
def zA{r:aV}{i k:Nat}{a e:aZ}(b:r.aO[k]? =I a)(c:r.aO[k+1]? =I e):wY r i k=⟨i,k,a.stop,e.stop,a.aR,e.aQ⟩:=by simp only[wY,b,c]
def pd(r:aV)(i m:Nat):List c0:=(b8 m).map (wY r i)
def KV(r:aV)(i m:Nat):(pd r i m).length=m:=by simp[pd]
def ab8(r:aV)(i m:Nat):pd r i (m+1)=pd r i m++[wY r i m]:=by simp[pd,List.range_succ]
def h7(R:List aV):Nat->List c0
 |0=>[]
 |i+1=>h7 R i++match R[i]? with|some r=>(bif r.ds then[] else pd r i (r.aO.length -1))|none=>[]
def zB{R:List aV}{i:Nat}{r:aV}(h:R[i]? =I r)(a:r.ds=U):h7 R (i+1)=h7 R i:=by simp[h7,h,a]
def zD{R:List aV}{i:Nat}{r:aV}(h:R[i]? =I r)(a:r.ds=ad):h7 R (i+1)=h7 R i++pd r i (r.aO.length -1):=by simp[h7,h,a]
theorem wZ{n:ak}(F:jH n):∀i,i<=n.ar.length->(h7 n.ar i).length<=5*i
 |0,_=>by simp[h7]
 |i+1,h=>by
  have d:=wZ (F) i J;have a:n.ar[i]? =I n.ar[i]:=cG J;have c:=(F.len _ (bI a)).2;cases b:(n.ar[i]).ds
  . rw[zD a b,b0,KV];omega
  . rw[zB a b];omega
theorem zC{n:ak}:∀i(c:c0),c∈h7 n.ar i↔∃(j k:Nat)(r:aV)(a e:aZ),j<i/\de n j k r a/\de n j (k+1) r e/\c=⟨j,k,a.stop,e.stop,a.aR,e.aQ⟩
 |0,c=>⟨λh=>by simp[h7] at h,λ⟨j,_,_,_,_,h,_⟩=>aJ h (c9 _)⟩
 |i+1,c=>by
  have o:=zC (n:=n) i c;cases d:n.ar[i]? with
  |none=>
   have e:h7 n.ar (i+1)=h7 n.ar i:=by simp[h7,d]
   rw[e,o];constructor
   . rintro⟨j,k,r,a,e,h,b⟩;exact⟨j,k,r,a,e,J,b⟩
   . rintro⟨j,k,r,a,e,h,b⟩;rcases eT j i with g|g
     . exact⟨j,k,r,a,e,g,b⟩
     . obtain rfl:j=i:=J;have:=b.1.cy;rw[d] at this;cases this
  |some r=>
   cases m:r.ds
   . rw[zD d m,dv,o];constructor
     . rintro(⟨j,k,r,a,e,h,b⟩|h)
       . exact⟨j,k,r,a,e,J,b⟩
       . obtain⟨k,t,rfl⟩:=gY.1 h;have t:=hh.1 t;have q:r.aO[k]? =I r.aO[k]:=cG J;have s:r.aO[k+1]? =I r.aO[k+1]:=cG J;exact⟨i,k,r,_,_,Nat.lt_succ_self _,⟨d,m,q⟩,⟨d,m,s⟩,zA q s⟩
     . rintro⟨j,k,p,a,e,h,f,l,rfl⟩;rcases eT j i with g|g
       . exact .inl ⟨j,k,p,a,e,g,f,l,rfl⟩
       . obtain rfl:j=i:=J;have:=f.cy;rw[d] at this;cases this;refine .inr (gY.2 ⟨k,hh.2 ?_,zA f.cV l.cV⟩);have:=(az.1 l.cV).1;omega
   . rw[zB d m,o];constructor
     . rintro⟨j,k,r,a,e,h,b⟩;exact⟨j,k,r,a,e,J,b⟩
     . rintro⟨j,k,p,a,e,h,b⟩;rcases eT j i with g|g
       . exact⟨j,k,p,a,e,g,b⟩
       . obtain rfl:j=i:=J;have f:=b.1.cy;rw[d] at f;cases f;have l:=b.1.ds;rw[m] at l;cases l
def Ee{n:ak}(F:jH n){l:List c0}(g:l.Perm (h7 n.ar n.ar.length))(ae:∀(x y:Nat)(c d:c0),x<y->l[x]? =I c->l[y]? =I d->c.aR<=d.aR):tc n l where
 mem c m:=by obtain⟨j,k,r,a,e,_,b,f,h⟩:=(zC _ c).1 (g.mem_iff.1 m);exact⟨j,k,r,a,e,b,f,h⟩
 all i k r a e b f:=g.mem_iff.2 ((zC _ _).2 ⟨i,k,r,a,e,(az.1 b.cy).1,b,f,rfl⟩)
 BH:=ae
 len:=by have:=wZ (F) _ (bk _);have:=F.ar;rw[g.length_eq];omega
def hp.aaG{b bytes:Nat}{N:Mem}{x:V}{R:List (List V)}(h:hp b N x R){r:List V}(i:r.length=b)(g:(R.length+1)*(2*bytes)<=2^48):∃f a8,cw ad b bytes x (.slice [r] .full) N=I (f,a8)/\hp b a8 f (R++[r])/\∀(j:Nat)(c:List V),N[j]? =I (.box c)->a8[j]? =I (.box c):=by
 obtain⟨a,ver,a8,k,l,o,m,n⟩:=h.push i g;refine⟨_,a8,k,.inr ⟨a,ver,by simp,l,by simp⟩,λj c d=>m _ _ d ?_⟩;rintro rfl;rcases n with⟨_,e⟩|⟨v,_,e⟩
 . have:=(az.1 d).1;omega
 . rw[d] at e;cases e
def hp.pO{f:Nat}{N:Mem}{x:V}{R:List (List V)}(h:hp f N x R)(k:Nat):∃c,cY N 0 (k+1) x=I (.slice R c):=
 h4.pO (g:=0) (by
  rcases h with h|⟨a,ver,b,d,e⟩
  . exact .inl h
  . exact .inr ⟨a,ver,c_ _,b,d,e⟩) k
def Nw(n:ak)(al:n.wf)(ok:di n):bq aH 64 [.agg n.row] (λv=>∃l c,tc n l/\v=.tuple [.slice (l.map c0.row) c,v0]):=by
 have K:=t7 n al ok;have F:=vV ok;refine bB Fm ?_;simp only[ak.row] at K;refine aL @ak.row.eq_1 ?_;refine Bu ?_;refine ah ?_;refine bG K ?_;have ai:(n.ar.map aV.row).length=n.ar.length:=cz _;refine aL ai ?_;refine d4 n.ar.length (λi f N=>∃x,f=[x,.slice (n.ar.map aV.row) n.jx,aa n.ar.length,aa i]/\hp 6 N x ((h7 n.ar i).map c0.row)) ⟨.slice [] .nil,rfl,.inl ⟨rfl,rfl⟩⟩ ?_ ?_
 . rintro i f N z aS ⟨x,rfl,g⟩;have j:n.ar[i]? =I n.ar[i]:=cG z;generalize n.ar[i]=r at j;have p:=λG=>cE N G;have O:∀(B X:au)(G:Mem),(N++B::G).set N.length X=N++X::G:=λB X G=>hZ N B X G;refine es aS j p O @aV.row.eq_1 ?_;have ax:=F.len r (bI j);have aA:=F.ar;have V:(r.aO.length:Int) -1=((r.aO.length -1:Nat):Int):=J;apply dt<;>intro M
   . refine ah ?_;refine bE z ⟨x,rfl,?_⟩;rw[zB j M];exact g.a1 _
   . refine bN p V ?_;refine d4 (r.aO.length -1) (λk f b=>∃y,f=[y,aa i,.ptr N.length 0,.slice (n.ar.map aV.row) n.jx,aa n.ar.length,aa i,aa (r.aO.length -1:Nat),aa k]/\b[N.length]? =I (.box [aa r.oc,aa r.mh,aa r.nb,.str r.id,aa r.gJ,.bool r.bH,.bool r.ds,.slice (r.aO.map aZ.row) r.tag])/\hp 6 b y ((h7 n.ar i++pd r i k).map c0.row)) ⟨x,rfl,by rw[p];rfl,by simpa[pd] using g.a1 _⟩ ?_ ?_
     . rintro k f b ab af ⟨y,rfl,u,s⟩;have t:r.aO[k]? =I r.aO[k]:=cG J;have w:r.aO[k+1]? =I r.aO[k+1]:=cG J;generalize r.aO[k]=a at t;generalize r.aO[k+1]=e at w;have W:(k:Int)+1=((k+1:Nat):Int):=J;have C:=λL=>a0 u L;have P:∀G:Mem,(b++G)[b.length]? =G[0]? :=λG=>cE b G;have Q:∀(B X:au)(G:Mem),(b++B::G).set b.length X=b++X::G:=λB X G=>hZ b B X G;have S:∀G:Mem,(b++G)[b.length+1]? =G[1]? :=λG=>by rw[fH J,show b.length+1 -b.length=1 by omega]
       have T:∀(a B X:au)(G:Mem),(b++a::B::G).set (b.length+1) X=b++a::X::G:=λa B X G=>by simp
       have ay:=wZ (F) i J;obtain⟨aw,o,ap,aq,av⟩:=(s.a1 [.box [aa a.stop,aa a.aQ,aa a.aR,.bool a.cM,.bool a.ct],.box [aa e.stop,aa e.aQ,aa e.aR,.bool e.cM,.bool e.ct]]).aaG (r:=[aa i,aa k,aa a.stop,aa e.stop,aa a.aR,aa e.aQ]) (bytes:=48) rfl (by rw[cz,b0,KV];omega);simp-implicitDefEqProofs (disch:=omega) only[go_sem,af,u,C,t,w,W,aZ.row,P,Q,S,T,cS,fG,eH,ap];refine bE ab ⟨aw,rfl,av _ _ (C _),?_⟩;rw[ab8,zA t w,<-cS,iL (l₁:=h7 n.ar i++pd r i k)];exact aq
     . rintro f b ⟨y,rfl,u,s⟩;refine aL @bV ?_;refine bE z ⟨y,rfl,?_⟩;rw[zD j M];exact s
 . rintro f N ⟨x,rfl,g⟩;refine aL @bV ?_;generalize H:(h7 n.ar n.ar.length).map c0.row=R at g;rcases g with⟨rfl,rfl⟩|⟨a,ver,rfl,D,q⟩
   . have am:h7 n.ar n.ar.length=[]:=List.map_eq_nil_iff.1 H;refine ch (acS N) ?_;rintro v a8 ⟨rfl,rfl⟩;refine fE (aX 56) ?_;exact⟨[],.nil,Ee (F) (by rw[am]) (λx y c d _ h=>by simp at h),rfl⟩
   . subst H;rw[cz] at q⊢;refine ch (acR D q (by have:=wZ (F) _ (bk _);have:=F.ar;omega)) ?_;rintro v a8 ⟨rfl,m,A,ae,rfl⟩;have Z:=Ee (F) A ae;have Y:=(az.1 D).1;have E:hp 6 (N.set a (.aj 6 (m.map c0.row) ver 0)) (.an a ver 0 (h7 n.ar n.ar.length).length) (m.map c0.row):=.inr ⟨a,ver,by rw[cz,A.length_eq],bY Y,by rw[cz,A.length_eq];exact q⟩;generalize N.set a (.aj 6 (m.map c0.row) ver 0)=o at E;obtain⟨c,ao⟩:=E.pO 18;refine ah ?_;rw[aX,uh];show hC ((eO (cY o 0 19) [.an a ver 0 (h7 n.ar n.ar.length).length,v0]).map .tuple) _;have e:eO (cY o 0 19) [.an a ver 0 (h7 n.ar n.ar.length).length,v0]=I [.slice (m.map c0.row) c,v0]:=by
      simp only[eO,ao];rfl
     rw[e];exact⟨rfl,⟨m,c,Z,rfl⟩,rfl,rfl⟩
def uA(n:ak)(q:aG)(z:Int):Prop:=(z=-1/\∀(r:Nat)(t:Int),(r:Int)<=q.aY->¬fU n q r q.dst t)∨((∃r:Nat,(r:Int)<=q.aY/\fU n q r q.dst z)/\∀(r:Nat)(t:Int),(r:Int)<=q.aY->fU n q r q.dst t->z<=t)
structure yO(q:aG):Prop where
 aM:0<=q.aM
 dst:0<=q.dst
 aY:0<=q.aY
section
variable{n:ak}{q:aG}(ho:jH n)(al:yO q)
include ho al
def yZ{r:Nat}{s t:Int}(h:fU n q r s t):0<=t:=by have:=De ho (ho.wX q.src).1 (λs _=>(ho.wX s).1) h;have:=al.aM;omega
def Qo{z:Int}(h:uA n q z):z=-1∨0<=z:=by
 rcases h with⟨h,_⟩|⟨⟨r,_,h⟩,_⟩
 . exact .inl h
 . exact .inr (yZ ho al h)
def abX{z:Int}(h:uA n q z){P:Nat->co}{L:Nat->Int}{k:Nat}(o:q.aY=k)(f:pm n q k P L)(ae:kP (l3 n q k) (mW n q k) P):(P q.dst.toNat).aj=z:=by
 have j:((q.dst.toNat:Nat):Int)=q.dst:=fr al.dst;have e:∀r∈n.ar,∀c∈r.aO,0<=c.stop:=λr d c i=>(ho.stop r d c i).1;by_cases b:(P q.dst.toNat).aj=-1
 . rcases h with⟨h,_⟩|⟨⟨r,d,h⟩,_⟩
   . rw[b,h]
   . exact aJ b (IE e f h J).1
 . obtain⟨r,d,a⟩:=(ae q.dst.toNat).1 b;rw[j] at a;rcases h with⟨_,h⟩|⟨⟨s,p,h⟩,g⟩
   . exact aJ a (h r _ J)
   . have l:=(IE e f h J).2;have m:=g r _ J a;omega
structure pr(x:Int):Prop where
 snd:x≠-1->∃r,fU n q r q.dst x
 all:∀(r:Nat)(t:Int),fU n q r q.dst t->cD x t
omit ho al in
def pr.ry{x y:Int}(h:pr (n:=n) (q:=q) x)(k:pr (n:=n) (q:=q) y):x=y:=by
 by_cases a:x=-1
 . by_cases c:y=-1
   . rw[a,c]
   . obtain⟨r,e⟩:=k.snd c;exact aJ a (h.all r _ e).1
 . obtain⟨r,d⟩:=h.snd a;have b:=k.all r _ d;obtain⟨g,f⟩:=k.snd b.1;have:=(h.all g _ f).2;have:=b.2;omega
def K4{C:List Int}{S:eF}(ae:hb n q C S)(a:th n q S.P (λi=>(S.R i).cl)):pr (n:=n) (q:=q) (S.P q.dst.toNat).aj where
 snd e:=by obtain⟨_,_,_,r,_,h⟩:=(ae.snd q.dst.toNat).1 e;rw[fr al.dst] at h;exact⟨r,h⟩
 all r t h:=acf ho.bj (λr d c b=>(ho.stop r d c b).1) a h
def AC{x:Int}(h:pr (n:=n) (q:=q) x):x=-1∨0<=x:=by
 by_cases a:x=-1
 . exact .inl a
 . obtain⟨r,h⟩:=h.snd a;exact .inr (yZ ho al h)
def Y9{x z:Int}(h:pr (n:=n) (q:=q) x)(c:uA n q z)(d:0<=z):0<=x/\x<=z:=by
 rcases c with⟨a,_⟩|⟨⟨r,_,a⟩,_⟩
 . omega
 . have b:=h.all r z a;have:=AC ho al h;exact⟨by have:=b.1;omega,b.2⟩
omit ho al in
def Y_{x z:Int}(h:pr (n:=n) (q:=q) x)(e:uA n q z){r:Nat}(c:(r:Int)<=q.aY)(b:fU n q r q.dst x):x=z:=by
 rcases e with⟨_,a⟩|⟨⟨f,_,a⟩,d⟩
 . exact aJ b (a r x c)
 . have g:=(h.all f z a).2;have i:=d r x c b;omega
omit al in
def Za{x:Int}(h:pr (n:=n) (q:=q) x)(d:q.src=q.dst):fU n q 0 q.dst x:=by
 have a:fU n q 0 q.dst q.aM:=d▸fU.eP;have b:=h.all 0 _ a;obtain⟨r,c⟩:=h.snd b.1;have f:=De ho (ho.wX q.src).1 (λs _=>(ho.wX s).1) c;have e:x=q.aM:=by have:=b.2;omega
 rw[e];exact a
end
structure Nn(n:ak)(q:aG)(l:Int)(L:List a7)(e:Int):Prop where
 cX:e=0↔0<=l
 aj:e=0->fU n q (g5 L) q.dst l
 len:L.length<=10000000000
def uD.out{n:ak}{q:aG}(ho:jH n)(al:yO q){l:Int}(d:pr (n:=n) (q:=q) l){v:V}(h:uD n q v):∃(L:List a7)(c:cg)(e:Int),v=.tuple [.agg [.slice (L.map a7.row) c],aa e]/\Nn n q l L e:=by
 obtain⟨S,ae,i,h⟩:=h;have f:=K4 ho al ae i;have e:=d.ry f;have j:=AC ho al d;rw[<-e] at h;rcases h with⟨b,rfl⟩|⟨_,b,rfl⟩|⟨_,b,L,c,rfl,g,a⟩
 . have a:=Za ho d b;exact⟨[],.nil,0,rfl,⟨λ_=>yZ ho al a,λ_=>rfl⟩,λ_=>a,c_ _⟩
 . exact⟨[],.nil,23,rfl,⟨λh=>J,λh=>J⟩,λh=>J,c_ _⟩
 . exact⟨L,c,0,rfl,⟨λ_=>J,λ_=>rfl⟩,λ_=>a,g⟩
def vk(n:ak):ak:={n with bQ:=⟨[qH],.full,0,0,0⟩}
def Xm(n:ak):j7 (vk n).bQ:=⟨rfl,rfl,rfl,rfl⟩
def Xn{n:ak}(h:n.wf):(vk n).wf:=⟨h.aB,h.ey,h.ar,h.bj,h.bw,by
 have a:dd 0:=by unfold dd;omega
 have c:maxLen=9223372036854775807:=by rfl
 refine⟨λp b=>?_,by show 1<=maxLen;omega,a,a,a⟩;obtain rfl:=dV.1 b;exact⟨by show 4<=maxLen;omega,a,by show dd 1;unfold dd;omega,by show dd 16;unfold dd;omega,a,by show dd 255;unfold dd;omega⟩⟩
theorem Na(n:ak):bq aH 6 [.agg n.row] (λv=>v=.agg (vk n).row):=by refine bB Xj (b6 @ak.row.eq_1 @vk.eq_1 @qH.eq_1 ?_);rfl
def P4{m:ak}{p:aG}(W:bq aH 9 [] (λv=>v=.bool U))(t:m.wf)(ok:di m)(al:ka m.aB.length p)(H:p.hE=ad)(au:p.aY<=5){z:Int}(C:uA (c8 m p) (plain p) z)(X:List V):
 ck aH DL (pf (ck aH (fx DM DN DO zd ze (am zf (cm 0 (eN [3,7,10,12,13,14,137,138] (dj zg (bM 139 bd (dM 0)) (cm 1 (am zh zi)) zj)))) zk aP)) (iT [jF.tmp 4] (sF 0 λv D=>v=V.bool U/\D=[]/\V.under 0 v=U)))
  [(2,.ptr 0 0),(3,.ptr 1 0),(7,aa z)] [.box m.row,.box p.row,.box X]:=by
 have G:=tt m p ok;have az:=Nv (c8 m p) (wy m p t) G;have ab:=Nw (c8 m p) (wy m p t) G;have ap:=aaS m p t ok al H au (q0:=plain p) rfl rfl rfl az;have ai:=RR m p t ok al H (q0:=plain p) rfl rfl rfl ab;have an:=RS m p t ok al H (q0:=plain p) rfl rfl rfl rfl ab;have ho:=vV G;have j:yO (plain p):=⟨al.aM.1,al.dst.1,al.aY.1⟩;obtain⟨k,O⟩:∃k:Nat,p.aY=k:=⟨p.aY.toNat,by have:=al.aY.1;omega⟩;obtain⟨d,w⟩:∃d:Nat,p.dst=d:=⟨p.dst.toNat,by have:=al.dst.1;omega⟩;have ao:d<m.aB.length:=by have:=al.dst.2;omega
 have aq:(c8 m p).aB.length=m.aB.length:=rfl;simp only[ak.row,aG.row,O,w] at ap ai an;refine rx (aX 25) @ak.row.eq_1 @aG.row.eq_1 O w ?_;refine d2 ap ?_;rintro v ⟨T,c,rfl,af,aE⟩;rw[dU] at af;have F:T[k]? =I (T[k]'J):=cG J;obtain⟨P,aA,⟨L,ax⟩,aD⟩:=aE k _ F;rw[aA] at F;have aF:(P d).aj=z:=by have:=abX ho j C (k:=k) O ax aD;rw[show(plain p).dst=(d:Int) from w,dU] at this;exact this
 have aJ:(nL m.aB.length P).length=m.aB.length:=ep _ _;have aI:(nL m.aB.length P)[d]? =I [aa z]:=by rw[<-aF];exact g8 _ ao
 have aQ:decide ((((k+1:Nat):Int))=(k:Int)+1)=U:=bR;refine ah ?_;simp-implicitDefEqProofs (disch:=omega) only[go_sem,↓aX 30,af,F,aJ,aI,aQ,aq];refine fE (aX 32) ?_;refine d2 ai ?_;rintro v ⟨S,c2,rfl,ae,aw⟩;have o:=K4 ho j ae aw;rw[show(plain p).dst=(d:Int) from w,dU] at o;have Q:(nL m.aB.length S.P).length=m.aB.length:=ep _ _;have n:(nL m.aB.length S.P)[d]? =I [aa (S.P d).aj]:=g8 _ ao;generalize aC:nL m.aB.length S.P=R at Q n;generalize a1:(S.P d).aj=x at o n;have a2:=AC ho j o;have a4:=Qo ho j C;have aO:=λh=>Y9 ho j o C h;refine bN aq aC ?_;have M:∀b,ck aH zd (pf (ck aH (ze.seq ((am zf (cm 0 (eN [3,7,10,12,13,14,137,138] (dj zg (bM 139 bd (dM 0)) (cm 1 (am zh zi)) zj)))).seq (zk.seq aP)))) (iT [jF.tmp 4] (sF 0 λv D=>v=V.bool U/\D=[]/\V.under 0 v=U)))
  [(2,.ptr 0 0),(3,.ptr 1 0),(7,aa z),(10,.slice R c2),(128,.bool b)] [.box m.row,.box [aa p.src,aa d,aa p.aM,.bool p.hE,aa k,aa p.bD,.bool p.bH,.bool p.na,aa p.dn,.bool p.hc],.box X]:=λb=>by
  refine pi (aX 39) @ak.row.eq_1 ?_;refine d2 an ?_;intro v aK;obtain⟨a,ar,e,rfl,u⟩:=uD.out ho j (l:=x) o aK;have aV:=u.len;have ay:(a.map a7.row).length=a.length:=cz _;refine ah ?_;refine pi (aX 43) ay ?_;refine d4 a.length (λi Y N=>Y=[.ptr 1 0,aa z,.slice R c2,.ptr 3 0,aa e,aa (g5 (a.take i)),aa a.length,aa i]/\N[1]? =I (.box [aa p.src,aa d,aa p.aM,.bool p.hE,aa k,aa p.bD,.bool p.bH,.bool p.na,aa p.dn,.bool p.hc])/\N[3]? =I (.box [.slice (a.map a7.row) ar])) ⟨rfl,rfl,rfl⟩ ?_ ?_
  . rintro i Y N A aS ⟨rfl,f,q⟩;have B:a[i]? =I a[i]:=cG A;generalize a[i]=y at B;have K:g5 (a.take (i+1))=g5 (a.take i)+if y.bl&&!y.aT then 1 else 0:=by
     rw[gM,B,Option.toList,Ec]
    have aZ:g5 (a.take i)<=i:=by rw[g5];have:=lZ (λx:a7=>x.bl&&!x.aT) (a.take i);rw[fh] at this;omega
    refine d0 aS q B @a7.row.eq_1 ?_;apply dt<;>intro E
    . refine b6 q B @a7.row.eq_1 ?_;apply dt<;>intro Z
      . refine ah ?_;refine bE A ⟨?_,f,q⟩;rw[K,E,Z];rfl
      . refine ah ?_;refine bE A ⟨?_,f,q⟩;rw[K,E,Z];rfl
    . refine ah ?_;refine bE A ⟨?_,f,q⟩;rw[K,E];rfl
  . rintro Y N ⟨rfl,f,q⟩;rw[eS (bk _)];refine aL @bV ?_;have a0:g5 a<=a.length:=lZ _ _;by_cases s:e=0
    . have g:decide (0<=x)=U:=be (u.cX.1 s);have av:=u.aj s;subst s;refine lk (aX 64) f n g ?_;apply aW<;>intro aU
      . refine ah ?_;exact bG W (kF)
      . have aN:x=z:=Y_ o C (r:=g5 a) (by show(g5 a:Int)<=p.aY;omega) av;have dD:decide (x=z)=U:=be aN;refine b6 f n dD ?_;exact bG W (kF)
    . have g:decide (0<=x)=ad:=decide_eq_false (λh=>s (u.cX.2 h));have dD:decide (e=0)=ad:=decide_eq_false s;refine rx (aX 64) f n g dD ?_;exact bG W (kF)
 simp only[ak.row] at M;rcases Int.lt_or_le z 0 with h|h
 . have g:decide (0<=z)=ad:=h8;refine v5 (aX 37) Q g ?_;exact M _
 . have a3:=aO h;have g:decide (0<=z)=U:=be h;have dD:decide (x<0)=ad:=h8;have aR:decide (z<x)=ad:=h8;refine B7 (aX 37) Q n g dD aR ?_;exact M _
def Pw(n:ak)(q:aG)(M:n.wf)(c:bq aH 9 [] (λv=>v=.bool U)):bq aH 3 [.agg n.row,.agg q.row] (λv=>v=.bool U):=by
 have h:=Na n;obtain⟨m,i⟩:∃m,m=vk n:=⟨_,rfl⟩;have d:m.wf:=i▸Xn M;have L:j7 m.bQ:=i▸Xm n;rw[<-i] at h;obtain⟨p,a⟩:∃p:aG,p={q with bD:=86400}:=⟨_,rfl⟩;have s:=abm m d;have g:=abi m p d;simp only[ak.row] at h s g;simp only[aG.row] at g;refine bB Xg (bN @ak.row.eq_1 @aG.row.eq_1 ?_);refine bG h ?_;have t:p.src=q.src:=by rw[a]
 have u:p.dst=q.dst:=by rw[a]
 have w:p.aM=q.aM:=by rw[a]
 have x:p.hE=q.hE:=by rw[a]
 have y:p.aY=q.aY:=by rw[a]
 have k:p.bD=86400:=by rw[a]
 have A:p.bH=q.bH:=by rw[a]
 have B:p.na=q.na:=by rw[a]
 have C:p.dn=q.dn:=by rw[a]
 have D:p.hc=q.hc:=by rw[a]
 simp-implicitDefEqProofs (disch:=omega) only[go_sem,<-t,<-u,<-w,<-x,<-y,<-A,<-B,<-C,<-D];rw[show(86400:Int)=p.bD from k.symm];refine fE (aX 10) ?_;refine d2 s ?_;rintro v ⟨b,rfl,H⟩;refine ah ?_;apply cU<;>intro E
 . refine ah ?_;exact bG c (kF)
 have ok:=H E;refine ah ?_;apply dt<;>intro l
 . refine ah ?_;exact bG c (kF)
 refine ah ?_;apply aW<;>intro P
 . refine ah ?_;exact bG c (kF)
 refine ah ?_;refine d2 g ?_;rintro v ⟨e,rfl,K⟩;refine ah ?_;apply cF<;>intro F
 . refine ah ?_;exact bG c (kF)
 have al:=(K F).2;have r:=M7 m p d ok al l J k L;simp only[ak.row,aG.row] at r;refine fE (aX 12) ?_;refine d2 r ?_;intro v N;have j:=λz X O=>P4 c d ok al l J (z:=z) O X;simp only[ak.row,aG.row] at j;rcases N with⟨o,rfl,f,G⟩|⟨rfl,f⟩
 . refine pi (aX 23) @cx.row.eq_1 ?_;exact j _ _ (.inr ⟨f,G⟩)
 . refine fE (aX 23) ?_;exact j _ _ (.inl ⟨rfl,f⟩)
def h1:ak where
 aB:=[⟨[65],0,ad,0⟩,⟨[66],0,ad,120⟩,⟨[67],0,ad,0⟩]
 ey:=[⟨[82],0,ad⟩]
 ar:=[⟨0,0,0,[116],0,ad,ad,[⟨0,100,100,U,ad⟩,⟨1,200,210,U,U⟩,⟨2,500,500,ad,U⟩],.full⟩,⟨0,0,0,[117],0,ad,ad,[⟨1,260,260,U,ad⟩,⟨2,400,400,ad,U⟩],.full⟩]
 bj:=[⟨0,1,1,0,ad⟩]
 bw:=[]
 bQ:=⟨[⟨[112],150,1,1,0,1⟩],.full,0,0,0⟩
 ij:=.full
 rc:=.full
 jx:=.full
 lc:=.full
 la:=.nil
def sX:aG:=⟨0,2,0,ad,2,0,ad,ad,0,ad⟩
def yi:h1.wf:=by
 have i64:∀n:Int,decide (-1000<=n/\n<=1000)=U->dd n:=λn h=>by have:=of_decide_eq_true h;unfold dd;omega
 have a:∀n:Nat,decide (n<=1000)=U->n<=maxLen:=λn h=>by have:=of_decide_eq_true h;have d:maxLen=9223372036854775807:=rfl;omega
 refine⟨⟨?_,a _ rfl⟩,⟨?_,a _ rfl⟩,⟨?_,a _ rfl⟩,⟨?_,a _ rfl⟩,⟨λ_ h=>(gh h).elim,a _ rfl⟩,⟨?_,a _ rfl,i64 _ rfl,i64 _ rfl,i64 _ rfl⟩⟩
 . intro s ae;simp only[h1,fI,gh,or_false] at ae;rcases ae with rfl|rfl|rfl<;>exact⟨a _ rfl,i64 _ rfl,i64 _ rfl⟩
 . intro s ae;simp only[h1,fI,gh,or_false] at ae;rcases ae with rfl
   exact⟨a _ rfl,i64 _ rfl⟩
 . intro s ae;simp only[h1,fI,gh,or_false] at ae;rcases ae with rfl|rfl
   all_goals
    refine⟨i64 _ rfl,i64 _ rfl,i64 _ rfl,a _ rfl,i64 _ rfl,λc b=>?_,a _ rfl⟩;simp only[fI,gh,or_false] at b;rcases b with rfl|b
    . exact⟨i64 _ rfl,i64 _ rfl,i64 _ rfl⟩
    rcases b with rfl|b
    . exact⟨i64 _ rfl,i64 _ rfl,i64 _ rfl⟩
    all_goals (rcases b with rfl;exact⟨i64 _ rfl,i64 _ rfl,i64 _ rfl⟩)
 . intro s ae;simp only[h1,fI,gh,or_false] at ae;rcases ae with rfl
   exact⟨i64 _ rfl,i64 _ rfl,i64 _ rfl,i64 _ rfl⟩
 . intro s ae;simp only[h1,fI,gh,or_false] at ae;rcases ae with rfl
   exact⟨a _ rfl,i64 _ rfl,i64 _ rfl,i64 _ rfl,i64 _ rfl,i64 _ rfl⟩
theorem adC:wr h1.aB:=by
 refine⟨by decide,λi s ae=>?_⟩;match i,ae with
 |0,ae=>cases ae;exact⟨by decide+kernel,by decide,by decide,λk t a=>aJ a (c9 _)⟩
 |1,ae=>cases ae;refine⟨by decide+kernel,by decide,by decide,λk t a b=>?_⟩;obtain rfl:k=0:=J;cases b;decide
 |2,ae=>cases ae;refine⟨by decide+kernel,by decide,by decide,λk t a b=>?_⟩;rcases(show k=0∨k=1 by omega) with rfl|rfl<;>cases b<;>decide
 |i+3,ae=>cases ae
theorem adA:uK h1.ey:=by
 refine⟨by decide,λi s ae=>?_⟩;match i,ae with
 |0,ae=>cases ae;exact⟨by decide+kernel,by decide,λk t a=>aJ a (c9 _)⟩
 |i+1,ae=>cases ae
theorem adB:tp h1:=by
 refine⟨by decide,λi r b=>?_⟩;match i,b with
 |0,b=>
  cases b;refine⟨by decide+kernel,by decide,by decide,by decide,by decide,⟨by decide,by decide,λk c a=>?_⟩,λk t d=>aJ d (c9 _)⟩;match k,a with
  |0,a=>cases a;exact⟨by decide,by decide,λp d=>aJ d J⟩
  |1,a=>cases a;exact⟨by decide,by decide,λp _ e=>by cases e;decide⟩
  |2,a=>cases a;exact⟨by decide,by decide,λp _ e=>by cases e;decide⟩
  |k+3,a=>cases a
 |1,b=>
  cases b;refine⟨by decide+kernel,by decide,by decide,by decide,by decide,⟨by decide,by decide,λk c a=>?_⟩,λk t d f=>?_⟩
  . match k,a with
    |0,a=>cases a;exact⟨by decide,by decide,λp d=>aJ d J⟩
    |1,a=>cases a;exact⟨by decide,by decide,λp _ e=>by cases e;decide⟩
    |k+2,a=>cases a
  . obtain rfl:k=0:=J;cases f;decide
 |i+2,b=>cases b
theorem adz:tk h1:=by
 refine⟨by decide,λi l e=>?_⟩;match i,e with
 |0,e=>cases e;refine⟨by decide,by decide,by decide,λa b f g=>?_,λh=>(by cases h),λh=>(by cases h),λk t n=>aJ n (c9 _)⟩;cases f;cases g;refine⟨by decide,by decide,λc d j m=>?_,λh=>by cases h⟩;cases j;cases m;rfl
 |i+1,e=>cases e
def ady:qm h1.bw h1.aB.length:=by have b:∀f,l6 h1.bw h1.aB.length f λ_ _=>dL:=λf=>⟨λp e=>(gh e).elim,λi j m _ _ _=>by show dL<=dL+dL;decide,λD a _ i j c d=>by have:=a i c;have:=a j d;show D j -D i<=dL;omega,λi j _ _=>by show 0<dL/\dL<=dL;decide⟩;exact⟨_,_,b ad,b U,by decide+kernel⟩
def yh:di h1:=by refine⟨⟨adC,adA,adB,adz,λi p b=>(by cases b),ady,by decide+kernel⟩,by decide,by decide,by decide,by decide,λr a=>?_⟩;simp only[h1,fI,gh,or_false] at a;rcases a with rfl|rfl<;>decide
def Mb:ka h1.aB.length sX:=by refine⟨by decide,by decide,by decide,by decide,by decide,by decide,by decide⟩
noncomputable section
def XJ:iO:=⟨[(0,[0,1,4]),(1,[])],[],[]⟩
def XL:iO:=⟨[(0,[0,1,2,3,4,10]),(1,[0,1,2,3,4,10,11]),(2,[0,1,2,3,4,10,11,12]),(3,[0,1,2,3,4,10,11,12,25]),(4,[]),(5,[0,1,2,3,4,10,11,12,32]),(6,[]),(7,[0,1,2,3,4,10,11,12,39]),(8,[0,1,2,3,4,10,11,12]),(9,[0,1,2,3,4,10,11,12]),(10,[0,1,2,3,4,10,11,12,13,14]),(11,[0,1,2,3,4,10,11,12,13,14,56]),(12,[0,1,2,3,4,10,11,12,13]),(13,[0,1,2,3,4,10,11,12,13]),(14,[0,1,2,3,4,10,11,12,13,14]),(15,[0,1,2,3,4,10,11,12,13,75]),(16,[0,1,2,3,4,10,11,12,13,80]),(17,[0,1,2,3,4,10,11,12,13,97]),(18,[0,2,3,4,10,11,15]),(19,[0,1,2,3,4,10,11]),(20,[0,1,2,3,4,12,16,17]),(21,[0,1,2,3,4,11,12,16]),(22,[0,1,2,3,4,11,12,16,18,19]),(23,[0,1,2,3,4,11,16,18,19,20]),(24,[0,1,2,3,4,11,16,18,19,20,125]),(25,[0,1,2,3,4,10,11,16]),(26,[0,2,3,4,10,11,16]),(27,[0,1,2,3,4,10,11]),(28,[0,1,2,3,4,10,11,16]),(29,[0,1,3,4,10,11,16]),(30,[0,1,2,3,4,10,11])],[(2,[0,1,2,3,4,10,11])],[]⟩
def XK:iO:=⟨[(0,[0,1,2,3,8]),(1,[0,1,2,3,8,14]),(2,[0,1,2,3,8]),(3,[0,1,2,3,8,9]),(4,[0,1,2,3,8,9,34]),(5,[0,1,2,3,8,9]),(6,[0,1,2,3,8,9])],[(1,[0,1,2,3,8]),(4,[0,1,2,3,8,9])],[]⟩
def XM:List (Nat×iO×Bool):=[]
def LJ:List (Nat×aU×Bool):=[(10,HU,ad),(15,HW,ad),(16,Gp,ad),(17,Fu,ad),(19,FK,ad),(20,FO,ad),(33,Gi,U),(34,HX,ad),(35,If,U),(36,H2,ad),(38,Gq,U),(39,Gz,ad),(40,E8,ad),(41,Gx,ad),(42,FG,ad),(43,Fy,ad),(44,Fw,ad),(46,G9,ad),(47,FQ,ad),(48,Ha,ad),(49,FT,ad),(71,vh,U),(72,F5,ad),(73,F8,ad),(74,In,U),(75,Gt,ad),(76,G4,ad),(84,Fe,ad),(85,Fi,ad),(86,Fz,ad),(87,FE,ad),(88,FC,ad),(89,Hg,ad),(90,Gk,ad),(91,He,ad),(92,Hb,ad),(93,Fb,ad),(94,E_,ad),(95,Fg,ad),(96,F3,ad),(136,H0,ad),(137,F_,U),(138,F6,ad),(139,Ge,ad),(140,Gc,ad),(141,H9,U),(142,Ia,U),(143,H6,U),(144,Ip,U),(145,xd,U),(151,FI,ad),(165,FM,ad),(166,Ga,ad),(167,Ih,U),(168,Ir,ad),(169,Gm,ad),(170,Ic,ad),(171,H5,U),(172,G0,ad),(173,G2,ad),(174,GY,ad),(197,F1,ad),(198,FX,ad),(199,FV,ad),(200,FZ,ad),(201,Il,U),(202,Gv,ad),(203,G6,ad),(216,GW,ad),(217,Ij,ad)]
def ads:mZ aH (j5 LJ):=bT HV<|bT HZ<|bT Gs<|bT Fv<|bT FL<|bT FP<|bT Gj<|bT HY<|bT Ig<|bT H3<|bT Gr<|bT GA<|bT E9<|bT Gy<|bT FH<|bT FB<|bT Fx<|bT G_<|bT FR<|bT Hd<|bT FU<|bT H4<|bT z6<|bT F9<|bT Io<|bT Gu<|bT G5<|bT Ff<|bT Fj<|bT FA<|bT FF<|bT FD<|bT Hh<|bT Gl<|bT Hf<|bT Hc<|bT Fc<|bT Fa<|bT Fh<|bT F4<|bT H1<|bT z7<|bT F7<|bT Gf<|bT Gd<|bT H_<|bT Ib<|bT H7<|bT Iq<|bT G8<|bT FJ<|bT FN<|bT Gb<|bT Ii<|bT Is<|bT Gn<|bT Ie<|bT H8<|bT G1<|bT G3<|bT GZ<|bT F2<|bT FY<|bT FW<|bT F0<|bT Im<|bT Gw<|bT G7<|bT GX<|bT Ik<|x_
def XN:List (Nat×iO×Bool):=[]
def LK:List (Nat×aU×Bool):=[(11,Hi,ad),(28,Ho,U),(56,Hm,ad),(57,GB,ad),(58,xe,U),(59,z9,U),(60,HA,U),(61,Hw,U),(107,GO,ad),(108,GK,ad),(109,GI,ad),(110,z8,U),(111,Hr,U),(112,Hk,ad),(113,Hy,U),(160,GG,ad),(161,GL,ad),(162,GD,ad),(163,Ht,U)]
def adt:mZ aH (j5 LK):=bT Hj<|bT Hp<|bT Hn<|bT GC<|bT z_<|bT Hv<|bT HB<|bT Hx<|bT GP<|bT GN<|bT GJ<|bT Hq<|bT Hs<|bT Hl<|bT Hz<|bT GH<|bT GM<|bT GF<|bT Hu<|x_
def nV:List (Nat×iO×Bool):=[(116,XJ,ad),(164,XL,ad),(189,XK,ad)]
def LL:List (Nat×aU×Bool):=[(12,HC,ad),(29,HG,U),(62,HE,ad),(63,HS,U),(64,Fl,ad),(65,Fo,ad),(66,HO,U),(114,HQ,U),(115,Ab,U),(117,Fk,ad),(118,Fs,ad),(119,Fp,ad),(120,HJ,U),(121,Aa,U),(122,HL,U),(153,GQ,ad),(186,GR,ad),(187,GS,ad)]
def adu:mZ aH (j5 LL):=bT HD<|bT HH<|bT HF<|bT HT<|bT Fm<|bT Fr<|bT HP<|bT HR<|bT HN<|bT UK<|bT Ft<|bT Fq<|bT HK<|bT HI<|bT HM<|bT GV<|bT Vw<|bT GU<|x_
def XO:List (Nat×iO×Bool):=[]
def LM:List (Nat×aU×Bool):=[(9,It,ad),(27,Iu,ad)]
def adv:mZ aH (j5 LM):=bT Xh<|bT Xk<|x_
end
def p4:V:=.agg h1.row
def rb:V:=.agg sX.row
def C3:V:=.agg (c8 h1 sX).row
def vw:List (Nat×List V×V):=[(37,[p4],.tuple [v0,v0,v0]),(37,[C3],.tuple [v0,v0,v0]),(31,[p4,rb],.tuple [C3,v0]),(32,[p4,rb],v0)]
def hW(n:Int):List V:=[aa n]
def ER:V:=.tuple [.agg [.slice [[.bool U,v0,v0,aa 1,v0,aa 1,aa 100,aa 200,.bool ad],[.bool U,aa 1,v0,aa 1,aa 1,aa 2,aa 260,aa 400,.bool ad]] .bF,
 aa 100,aa 400,aa 2,aa 300,v0,.slice [[v0,v0,v0,aa 150],[v0,aa 1,aa 1,aa 150]] .bF],v0]
def KR:V:=.tuple [.slice [[.slice [hW 0,hW (-1),hW (-1)] .bF],[.slice [hW 0,hW 200,hW 500] .bF],[.slice [hW 0,hW 200,hW 400] .bF]] .bF,v0]
def K3:V:=.tuple [.slice [hW 0,hW 200,hW 400] .bF,v0]
def T8:rA aH XM LJ (λt=>nS vw [] (j5 t) 3000 0 10 [p4,rb] []) ag=I (ER,[]):=by kernel_rfl
def abU:rA aH XN LK (λt=>nS vw [(28,58)] (j5 t) 3000 0 11 [p4,rb] []) ag=I (KR,[]):=by kernel_rfl
def acg:rA aH nV LL (λt=>nS vw [] (j5 t) 3000 0 12 [p4,rb] []) ag=I (K3,[]):=by kernel_rfl
def Au:List (Nat×List V×V):=[(10,[p4,rb],ER),(11,[p4,rb],KR),(12,[p4,rb],K3)]
def Qq:rA aH XO LM (λt=>nS Au [] (j5 t) 60 0 9 [] []) ag=I (.bool U,[]):=by kernel_rfl
def At:uG aH vw:=by
 have a:=tt h1 sX yh;intro f b v h;simp only[vw,fI,gh,or_false,dh] at h;rcases h with⟨rfl,rfl,rfl⟩|⟨rfl,rfl,rfl⟩|⟨rfl,rfl,rfl⟩|⟨rfl,rfl,rfl⟩
 . exact⟨rfl,t7 h1 yi yh⟩
 . exact⟨rfl,t7 _ (wy h1 sX yi) a⟩
 . exact⟨rfl,v_ h1 sX yi yh Mb⟩
 . exact⟨rfl,wb h1 sX yi yh Mb⟩
def w8{a:List (Nat×List V×V)}(d:uG aH a){l:List (Nat×iO×Bool)}{b:List (Nat×aU×Bool)}(g:mZ aH (j5 b)){j:List (Nat×Nat)}{n f:Nat}{args:List V}{v:V}(i:v.under 0=U)(h:rA aH l b (λt=>nS a j (j5 t) n 0 f args []) ag=I (v,[])):bq aH f args (λx=>x=v):=by obtain⟨t,e,c⟩:=Mv g h (by simp);exact aak d e n c i
def Yf:uG aH Au:=by
 intro f a v h;simp only[Au,fI,gh,or_false,dh] at h;rcases h with⟨rfl,rfl,rfl⟩|⟨rfl,rfl,rfl⟩|⟨rfl,rfl,rfl⟩
 . exact⟨rfl,w8 At ads rfl T8⟩
 . exact⟨rfl,w8 At adt rfl abU⟩
 . exact⟨rfl,w8 At adu rfl acg⟩
def Qr:bq aH 9 [] (λv=>v=.bool U):=w8 Yf adv rfl Qq
def Ep:List fi:=[.int .i64,.int .i64,.int .i64,.bool,.bool]
def abd{a:List V}(h:km Ep a):∃x:aZ,a=x.row/\x.wf:=by obtain⟨_,_,rfl,k,h⟩:=dT h;obtain⟨_,_,rfl,l,h⟩:=dT h;obtain⟨_,_,rfl,m,h⟩:=dT h;obtain⟨_,_,rfl,n,h⟩:=dT h;obtain⟨_,_,rfl,o,h⟩:=dT h;cases pR h;obtain⟨b,rfl,g⟩:=gp k;obtain⟨c,rfl,i⟩:=gp l;obtain⟨d,rfl,j⟩:=gp m;obtain⟨e,rfl⟩:=m3 n;obtain⟨f,rfl⟩:=m3 o;exact⟨⟨b,c,d,e,f⟩,rfl,g,i,j⟩
def Em:List fi:=[.str,.int .i64,.int .i64,.int .i64,.int .i64,.int .i64]
def aa_{a:List V}(h:km Em a):∃x:cv,a=x.row/\x.wf:=by obtain⟨_,_,rfl,o,h⟩:=dT h;obtain⟨_,_,rfl,p,h⟩:=dT h;obtain⟨_,_,rfl,q,h⟩:=dT h;obtain⟨_,_,rfl,r,h⟩:=dT h;obtain⟨_,_,rfl,s,h⟩:=dT h;obtain⟨_,_,rfl,t,h⟩:=dT h;cases pR h;obtain⟨b,rfl,i⟩:=xj o;obtain⟨c,rfl,j⟩:=gp p;obtain⟨d,rfl,k⟩:=gp q;obtain⟨e,rfl,l⟩:=gp r;obtain⟨f,rfl,m⟩:=gp s;obtain⟨g,rfl,n⟩:=gp t;exact⟨⟨b,c,d,e,f,g⟩,rfl,i,j,k,l,m,n⟩
def Er:List fi:=[.str,.int .i64,.bool,.int .i64]
def abe{a:List V}(h:km Er a):∃x:Stop,a=x.row/\x.wf:=by obtain⟨_,_,rfl,j,h⟩:=dT h;obtain⟨_,_,rfl,k,h⟩:=dT h;obtain⟨_,_,rfl,l,h⟩:=dT h;obtain⟨_,_,rfl,m,h⟩:=dT h;cases pR h;obtain⟨b,rfl,f⟩:=xj j;obtain⟨c,rfl,g⟩:=gp k;obtain⟨d,rfl⟩:=m3 l;obtain⟨e,rfl,i⟩:=gp m;exact⟨⟨b,c,d,e⟩,rfl,f,g,i⟩
def En:List fi:=[.str,.int .i64,.bool]
def abb{a:List V}(h:km En a):∃x:ec,a=x.row/\x.wf:=by obtain⟨_,_,rfl,g,h⟩:=dT h;obtain⟨_,_,rfl,i,h⟩:=dT h;obtain⟨_,_,rfl,j,h⟩:=dT h;cases pR h;obtain⟨b,rfl,e⟩:=xj g;obtain⟨c,rfl,f⟩:=gp i;obtain⟨d,rfl⟩:=m3 j;exact⟨⟨b,c,d⟩,rfl,e,f⟩
def Eo:List fi:=[.int .i64,.int .i64,.int .i64,.str,.int .i64,.bool,.bool,.slice Ep]
def abc{a:List V}(h:km Eo a):∃x:aV,a=x.row/\x.wf:=by obtain⟨_,_,rfl,r,h⟩:=dT h;obtain⟨_,_,rfl,s,h⟩:=dT h;obtain⟨_,_,rfl,t,h⟩:=dT h;obtain⟨_,_,rfl,u,h⟩:=dT h;obtain⟨_,_,rfl,v,h⟩:=dT h;obtain⟨_,_,rfl,w,h⟩:=dT h;obtain⟨_,_,rfl,y,h⟩:=dT h;obtain⟨_,_,rfl,z,h⟩:=dT h;cases pR h;obtain⟨b,rfl,l⟩:=gp r;obtain⟨c,rfl,m⟩:=gp s;obtain⟨d,rfl,n⟩:=gp t;obtain⟨e,rfl,o⟩:=xj u;obtain⟨f,rfl,p⟩:=gp v;obtain⟨g,rfl⟩:=m3 w;obtain⟨i,rfl⟩:=m3 y;obtain⟨j,k,rfl,q,A,_⟩:=sk (λa h=>abd h) z;exact⟨⟨b,c,d,e,f,g,i,j,k⟩,rfl,l,m,n,o,p,q,A⟩
def Ek:List fi:=[.int .i64,.int .i64,.int .i64,.int .i64,.bool]
def aa7{a:List V}(h:km Ek a):∃x:b1,a=x.row/\x.wf:=by obtain⟨_,_,rfl,l,h⟩:=dT h;obtain⟨_,_,rfl,m,h⟩:=dT h;obtain⟨_,_,rfl,n,h⟩:=dT h;obtain⟨_,_,rfl,o,h⟩:=dT h;obtain⟨_,_,rfl,p,h⟩:=dT h;cases pR h;obtain⟨b,rfl,g⟩:=gp l;obtain⟨c,rfl,i⟩:=gp m;obtain⟨d,rfl,j⟩:=gp n;obtain⟨e,rfl,k⟩:=gp o;obtain⟨f,rfl⟩:=m3 p;exact⟨⟨b,c,d,e,f⟩,rfl,g,i,j,k⟩
def El:List fi:=[.int .i64,.int .i64,.int .i64,.bool]
def aa9{a:List V}(h:km El a):∃x:bb,a=x.row/\x.wf:=by obtain⟨_,_,rfl,j,h⟩:=dT h;obtain⟨_,_,rfl,k,h⟩:=dT h;obtain⟨_,_,rfl,l,h⟩:=dT h;obtain⟨_,_,rfl,m,h⟩:=dT h;cases pR h;obtain⟨b,rfl,f⟩:=gp j;obtain⟨c,rfl,g⟩:=gp k;obtain⟨d,rfl,i⟩:=gp l;obtain⟨e,rfl⟩:=m3 m;exact⟨⟨b,c,d,e⟩,rfl,f,g,i⟩
def zG:List fi:=[.slice Er,.slice En,.slice Eo,.slice Ek,.slice El,.slice Em,.int .i64,.int .i64,.int .i64]
def aa8{a:List V}(h:km zG a):∃n:ak,a=n.row/\n.wf:=by obtain⟨_,_,rfl,y,h⟩:=dT h;obtain⟨_,_,rfl,z,h⟩:=dT h;obtain⟨_,_,rfl,A,h⟩:=dT h;obtain⟨_,_,rfl,B,h⟩:=dT h;obtain⟨_,_,rfl,C,h⟩:=dT h;obtain⟨_,_,rfl,D,h⟩:=dT h;obtain⟨_,_,rfl,E,h⟩:=dT h;obtain⟨_,_,rfl,F,h⟩:=dT h;obtain⟨_,_,rfl,G,h⟩:=dT h;cases pR h;obtain⟨b,c1,rfl,p,H,_⟩:=sk (λa h=>abe h) y;obtain⟨c,c2,rfl,q,J,_⟩:=sk (λa h=>abb h) z;obtain⟨d,c3,rfl,r,K,_⟩:=sk (λa h=>abc h) A;obtain⟨e,l,rfl,s,L,_⟩:=sk (λa h=>aa7 h) B;obtain⟨f,m,rfl,t,M,_⟩:=sk (λa h=>aa9 h) C;obtain⟨g,o,rfl,u,N,_⟩:=sk (λa h=>aa_ h) D;obtain⟨i,rfl,v⟩:=gp E;obtain⟨j,rfl,w⟩:=gp F;obtain⟨k,rfl,x⟩:=gp G;exact⟨⟨b,c,d,e,f,⟨g,o,i,j,k⟩,c1,c2,c3,l,m⟩,rfl,⟨⟨p,H⟩,⟨q,J⟩,⟨r,K⟩,⟨s,L⟩,⟨t,M⟩,⟨u,N,v,w,x⟩⟩⟩
def zH:List fi:=[.int .i64,.int .i64,.int .i64,.bool,.int .i64,.int .i64,.bool,.bool,.int .i64,.bool]
def aba{a:List V}(h:km zH a):∃q:aG,a=q.row:=by obtain⟨_,_,rfl,m,h⟩:=dT h;obtain⟨_,_,rfl,o,h⟩:=dT h;obtain⟨_,_,rfl,p,h⟩:=dT h;obtain⟨_,_,rfl,r,h⟩:=dT h;obtain⟨_,_,rfl,s,h⟩:=dT h;obtain⟨_,_,rfl,t,h⟩:=dT h;obtain⟨_,_,rfl,u,h⟩:=dT h;obtain⟨_,_,rfl,v,h⟩:=dT h;obtain⟨_,_,rfl,w,h⟩:=dT h;obtain⟨_,_,rfl,n,h⟩:=dT h;cases pR h;obtain⟨b,rfl,_⟩:=gp m;obtain⟨d,rfl,_⟩:=gp o;obtain⟨e,rfl,_⟩:=gp p;obtain⟨f,rfl⟩:=m3 r;obtain⟨g,rfl,_⟩:=gp s;obtain⟨i,rfl,_⟩:=gp t;obtain⟨j,rfl⟩:=m3 u;obtain⟨k,rfl⟩:=m3 v;obtain⟨l,rfl,_⟩:=gp w;obtain⟨c,rfl⟩:=m3 n;exact⟨⟨b,d,e,f,g,i,j,k,l,c⟩,rfl⟩
end Go.ao.C
