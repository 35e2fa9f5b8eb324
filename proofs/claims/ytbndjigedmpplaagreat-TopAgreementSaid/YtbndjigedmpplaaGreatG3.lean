/- A part of the proof of TopAgreement: the abstract machine, the code that the statement reaches, the contracts of its functions. Part 3. The text is made short by a program. -/
import Derived.Test.YtbndjigedmpplaaGreatG2
set_option linter.all false
set_option maxHeartbeats 8000000
set_option maxRecDepth 10000
open Bool renaming and_eq_true->bL,and_self->cR,false->ad,false_eq_true->gX,noConfusion->kI,not_eq_true'->hM,or_eq_true->ln,true->U
open Int renaming le_refl->fS,toNat_natCast->dU,toNat_of_nonneg->fr
open List renaming append_assoc->cS,append_nil->ez,cons_append->fG,drop_eq_getElem_cons->mM,drop_zero->hN,getElem?_append_left->et,getElem?_append_right->fH,getElem?_cons_zero->hg,getElem?_drop->h2,getElem?_eq_getElem->cG,getElem?_eq_none->jd,getElem?_eq_some_iff->az,getElem?_map->dK,getElem?_of_mem->eb,getElem?_set_ne->bo,getElem?_set_self->bY,getElem?_take_of_lt->fT,length_append->b0,length_cons->cc,length_drop->kJ,length_filter_le->lZ,length_map->cz,length_nil->eu,length_set->cW,length_singleton->hP,length_take->fh,map_append->iL,map_cons->gg,map_nil->jD,mem_append->dv,mem_append_left->je,mem_append_right->iq,mem_cons->fI,mem_cons_of_mem->fs,mem_cons_self->ft,mem_filter->jf,mem_map->gY,mem_of_getElem?->bI,mem_range->hh,mem_singleton->dV,nil_append->eH,not_mem_nil->gh,range->b8,replicate->d_,set_append->l1,set_set->h3,take_add_one->gM,take_length->f_,take_of_length_le->eS
open Nat renaming add_mul->gZ,add_zero->g_,le_refl->bk,le_trans->fJ,lt_or_ge->eT,mul_one->jV,not_lt_zero->c9,sub_self->hA,zero_add->dm,zero_le->c_
open Ne renaming symm->cA
open Option renaming map_eq_some_iff->cL,map_some->jE,none->ag,some->I
open Option.some renaming inj->mN,injEq->aC
namespace Go.ao.C
open Go.ao
def iZ{α β:Type}(f g:α->β)(l:List α)(i:Nat):List β:=(l.take i).map f++(l.drop i).map g
def Jr{α β:Type}(f g:α->β)(l:List α):iZ f g l l.length=l.map f:=by simp[iZ]
def Jt{α β:Type}(f g:α->β)(l:List α)(i:Nat):(iZ f g l i).length=l.length:=by simp[iZ];omega
def Js{α β:Type}{f g:α->β}{l:List α}{i:Nat}{x:α}(h:l[i]? =I x):(iZ f g l i)[i]? =I (g x):=by have a:=(az.1 h).1;rw[iZ,fH (by simp;omega)];simp[Nat.min_eq_left (Nat.le_of_lt a),h]
def Ju{α β:Type}{f g:α->β}{l:List α}{i:Nat}{x:α}(h:l[i]? =I x):(iZ f g l i).set i (f x)=iZ f g l (i+1):=by
 have a:=(az.1 h).1;have b:l.drop i=x::l.drop (i+1):=by rw[mM a];have:=cG a;rw[h] at this;injection this with this;rw[<-this]
 rw[iZ,iZ,b,List.set_append_right _ _ (by simp;omega)];simp[Nat.min_eq_left (Nat.le_of_lt a),gM,h]
def aV.fresh(r:aV):aV:={r with tag:=eC r.aO.length}
def ip:List V:=[.slice [] .nil,.slice [] .nil,.slice [] .nil,.slice [] .nil,.slice [] .nil,.slice [] .nil,v0,v0,v0]
def gS(n:ak)(b:Nat)(a:V):List V:=[.slice (n.aB.map Stop.row) (eC n.aB.length),.slice (n.ey.map ec.row) (eC n.ey.length),hv 8 b (n.ar.map aV.row),.slice (n.bj.map b1.row) (eC n.bj.length),.slice (n.bw.map bb.row) (eC n.bw.length),
 a,aa n.bQ.hG,aa n.bQ.e4,aa n.bQ.kf]
theorem MW(n:ak)(M:Mem)(H:n.aB.length<=1000)(K:n.ey.length<=1000)(w:n.ar.length<=1000)(P:n.bj.length<=1000)(Q:n.bw.length<=1000)(R:n.bQ.bU.length<=1000)(B:∀r∈n.ar,r.aO.length<=1000):
 bx aH 67 [.agg n.row] M (λv A=>v=.agg (gS n (M.length+3) (.slice (n.bQ.bU.map cv.row) (eC n.bQ.bU.length)))/\A=M++([.box n.row,.box (gS n (M.length+3) (.slice (n.bQ.bU.map cv.row) (eC n.bQ.bU.length))),.box (gS n (M.length+3) (.slice (n.bQ.bU.map cv.row) (eC n.bQ.bU.length)))]++qa 8 (n.ar.map λr=>r.fresh.row))):=by
 have g:=λL=>fW M L;have m:=λL=>ju M L;have k:=λL=>cE M L;have G:=λL=>iJ M L;refine dX VA ?_;simp only[dN];simp-implicitDefEqProofs (disch:=omega) only[go_sem,MF,ak.row,cS,k];have d:=λL=>g L 2;refine wO (Xt n.aB n.ij J) (g _ 2) ?_;refine aL k ?_;refine wO (Xs n.ey n.rc J) (g _ 2) ?_;refine aL k ?_;have u:∀a b c:au,(M++[a,b,c]).length=M.length+3:=λa b c=>by simp
 refine⟨hv 8 (M.length+3) (n.ar.map aV.row),_,?_,bx.mono (IA n.ar n.jx _ J) λv N h=>⟨by rw[h.1,u],h.2⟩,?_,?_⟩
 . rw[cS];exact g _ 2
 . refine bx.mono (IA n.ar n.jx _ J) λv N h=>⟨by rw[h.1,cW,u],?_⟩;rw[h.2,cS,m,m,cS];rfl
 rw[cS];refine aL k ?_;refine wO (Xr n.bj n.lc J) (g _ 2) ?_;refine aL k ?_;refine wO (Xq n.bw n.la J) (g _ 2) ?_;cases l:n.ar with
 |nil=>
  simp-implicitDefEqProofs (disch:=omega) only[go_sem,g,m,k,hv,qa,jD];refine d4 0 (λi o N=>o=[.ptr M.length 0,.ptr (M.length+1) 0,.ptr (M.length+2) 0,aa ((0:Nat):Int),aa i]/\
   N=M++[.box n.row,.box ip,.box (gS n (M.length+3) (.slice (n.bQ.bU.map cv.row) n.bQ.tag))]) ⟨rfl,by simp[ak.row,gS,l,hv,ip]⟩ ?_ ?_
  . intro i _ _ p;omega
  rintro o N ⟨rfl,rfl⟩;refine d0 @bV k @ak.row.eq_1 @gS.eq_1 ?_;refine d2 (Iz n.bQ.bU n.bQ.tag J) ?_;rintro v rfl;simp-implicitDefEqProofs (disch:=omega) only[go_sem,g,m,gS,ip,l,hv,jD,ak.row]
 |cons j e=>
 have O:e.length+1<=1000:=by rw[l] at w;exact w
 have C:∀r∈j::e,r.aO.length<=1000:=by rw[<-l];exact B
 have F:=λ(L:Mem)=>g L 3;simp-implicitDefEqProofs (disch:=omega) only[go_sem,g,m,k,hv,qa,gg];refine c6 (j::e) (λi o N=>o=[.ptr M.length 0,.ptr (M.length+1) 0,.ptr (M.length+2) 0,aa (j::e).length,aa i]/\
  N=M++[.box n.row,.box ip,.box (gS n (M.length+3) (.slice (n.bQ.bU.map cv.row) n.bQ.tag)),.aj 8 (iZ (λr=>r.fresh.row) aV.row (j::e) i) 0 0]) ⟨rfl,by simp[ak.row,gS,l,hv,ip,iZ]⟩ ?_ ?_;rotate_left
 . rintro o N ⟨rfl,rfl⟩;refine d0 @bV k @ak.row.eq_1 @gS.eq_1 ?_;refine d2 (Iz n.bQ.bU n.bQ.tag J) ?_;rintro v rfl;simp-implicitDefEqProofs (disch:=omega) only[go_sem,g,m,gS,ip,l,hv,gg,ak.row];have z:=Jr (λr:aV=>r.fresh.row) aV.row (j::e);rw[show(j::e).length=e.length+1 from rfl] at z;rw[z];rfl
 rintro i r o N s p q ⟨rfl,rfl⟩;have q:decide ((i:Int)<((e.length+1:Nat):Int))=U:=q;have p:i<e.length+1:=p;have x:decide (i<e.length+1)=U:=be p;have t:=Jt (λr:aV=>r.fresh.row) aV.row (j::e) i;have y:(iZ (λr:aV=>r.fresh.row) aV.row (j::e) i)[i]? =I [aa r.oc,aa r.mh,aa r.nb,.str r.id,aa r.gJ,.bool r.bH,.bool r.ds,.slice (r.aO.map aZ.row) r.tag]:=Js s;have E:(iZ (λr:aV=>r.fresh.row) aV.row (j::e) i).set i [aa r.oc,aa r.mh,aa r.nb,.str r.id,aa r.gJ,.bool r.bH,.bool r.ds,.slice (r.aO.map aZ.row) (eC r.aO.length)]=iZ (λr:aV=>r.fresh.row) aV.row (j::e) (i+1):=Ju (f:=λr:aV=>r.fresh.row) s;have D:((j::e).length)=e.length+1:=rfl;rw[D] at t;have S:decide (e.length+1<=e.length+1)=U:=be (bk _);simp-implicitDefEqProofs (disch:=omega) only[go_sem,q,g,ak.row,gS,l,hv,gg,cc,cz,t,y,x];refine nO (Xp r.aO r.tag (by have:=C r (bI s);omega)) ?_;simp-implicitDefEqProofs (disch:=omega) only[go_sem,g,m,t,y,E,cc,x];exact bE p ⟨rfl,by simp[ak.row,gS,l,hv,ip]⟩
def adM(r:aV):bq aH 131 [.agg r.row] (λv=>v=.bool (!r.ds)):=by exact bB UZ (jy @aV.row.eq_1)
def adN(r:aV)(q:aG){M:Mem}{a:Nat}(h:M[a]? =I (.box q.row))(c:b4 M.length M=U):bx aH 132 [.agg r.row,.ptr a 0] M (λv e=>v=.bool (r.bH||!q.bH)/\e=M):=by
 have d:∀L:Mem,(M++L).take M.length=M:=λL=>i9 rfl L;have le:∀L:Mem,decide (M.length<=M.length+L.length)=U:=λL=>bR;have b:=λL=>a0 h L;have f:=λL=>cE M L;simp only[aG.row] at b;refine bB U1 (bN @aV.row.eq_1 f ?_);apply dt<;>intro g
 . exact rz d c g @Bool.true_or
 . exact yo b d c g @Bool.false_or
def adO(r:aV)(q:aG)(u:ec){M:Mem}{a b:Nat}(i:M[a]? =I (.box q.row))(j:M[b]? =I (.box u.row))(e:b4 M.length M=U):bx aH 133 [.agg r.row,.ptr b 0,.ptr a 0] M (λv h=>v=.bool (u.uP||!q.na)/\h=M):=by
 have f:∀L:Mem,(M++L).take M.length=M:=λL=>i9 rfl L;have le:∀L:Mem,decide (M.length<=M.length+L.length)=U:=λL=>bR;have c:=λL=>a0 i L;have d:=λL=>a0 j L;have k:=λL=>cE M L;simp only[aG.row] at c;simp only[ec.row] at d;refine bB U3 (bN @aV.row.eq_1 d ?_);apply dt<;>intro g
 . exact rz f e g @Bool.true_or
 . exact yo c f e g @Bool.false_or
def t6(m k:Int):Bool:=decide (m=0)||decide (wz .i64 (m.fdiv (2^(min k.toNat 64))) 1=1)
def adP(r:aV)(q:aG)(u:ec){M:Mem}{a b:Nat}(i:M[a]? =I (.box q.row))(j:M[b]? =I (.box u.row))(e:b4 M.length M=U)(m:0<=u.fA/\u.fA<=7):bx aH 134 [.agg r.row,.ptr a 0,.ptr b 0] M (λv h=>v=.bool (t6 q.dn u.fA)/\h=M):=by
 have f:∀L:Mem,(M++L).take M.length=M:=λL=>i9 rfl L;have le:∀L:Mem,decide (M.length<=M.length+L.length)=U:=λL=>bR;have c:=λL=>a0 i L;have d:=λL=>a0 j L;have l:=λL=>cE M L;have k:cT .shr .none (aa q.dn) (aa u.fA)=I (aa (q.dn.fdiv (2^(min u.fA.toNat 64)))):=by show lT .shr .i64 q.dn u.fA=_;unfold lT;rw[h8];rfl
 simp only[aG.row] at c;simp only[ec.row] at d;refine bB U5 (bN @aV.row.eq_1 c ?_);apply aW<;>intro g
 . refine bN f e ?_;rw[t6,be g,Bool.true_or]
 . refine es c d f e k ?_;rw[t6,decide_eq_false g,Bool.false_or]
def v4(n:ak)(q:aG)(r:aV):Bool:=!r.ds&&((r.bH||!q.bH)&&match n.ey[r.gJ.toNat]? with
 |some u=>(u.uP||!q.na)&&t6 q.dn u.fA
 |none=>ad)
def adQ(r:aV)(q:aG)(u:ec){M:Mem}{a b c:Nat}(z:M[c]? =I (.b7 [.cI 131 [],.fn 132 [.ptr a 0],.fn 133 [.ptr b 0,.ptr a 0],.fn 134 [.ptr a 0,.ptr b 0]] 0))(l:M[a]? =I (.box q.row))(o:M[b]? =I (.box u.row))(e:b4 M.length M=U)(A:0<=u.fA/\u.fA<=7):
 bx aH 130 [.agg r.row,.an c 0 0 4] M
  (λv x=>v=.bool (!r.ds&&((r.bH||!q.bH)&&((u.uP||!q.na)&&t6 q.dn u.fA)))/\x=M):=by
 have h:∀L:Mem,(M++L).take M.length=M:=λL=>i9 rfl L;have le:∀L:Mem,decide (M.length<=M.length+L.length)=U:=λL=>bR;have j:=λL=>cE M L;have B:∀L:Mem,b4 (M.length+L.length) L=U->b4 (M++L).length (M++L)=U:=λL y=>by rw[n0,b0,n1 (Nat.le_add_right _ _) M e,y];rfl
 have m:b4 (M++[au.box r.row]).length (M++[au.box r.row])=U:=B _ (by simp[b4,au.under,cd,V.under,aV.row]);have f:=λL=>a0 z L;have p:=adM r;have s:=adN r q (a0 l [au.box r.row]) m;have t:=adO r q u (a0 l [au.box r.row]) (a0 o [au.box r.row]) m;have w:=adP r q u (a0 l [au.box r.row]) (a0 o [au.box r.row]) m A;simp only[aV.row] at p s t w;refine bB US (bN @aV.row.eq_1 f ?_);refine d4 4 (λi n N=>n=[.ptr M.length 0,.an c 0 0 4,aa 4,aa i]/\N=M++[.box r.row]/\
  (([!r.ds,(r.bH||!q.bH),(u.uP||!q.na),t6 q.dn u.fA]:List Bool).take i).all id=U) ⟨rfl,rfl,rfl⟩ ?_ ?_;rotate_left
 . rintro n N ⟨rfl,rfl,H⟩;have d:decide (((4:Nat):Int)<4)=ad:=rfl;refine b6 d h e ?_;simp only[List.take,List.all_cons,List.all_nil,id,Bool.and_true] at H;rw[H]
 rintro i n N k C ⟨rfl,rfl,H⟩;simp only[aV.row];rcases(by omega:i=0∨i=1∨i=2∨i=3) with rfl|rfl|rfl|rfl
 . have d:decide (((0:Nat):Int)<4)=U:=rfl;refine b6 d j f ?_;refine d2 p ?_;rintro v rfl;refine ah ?_;apply dt<;>intro g
   . refine bN h e ?_;simp[g]
   . refine ah ?_;refine bE k ⟨rfl,rfl,?_⟩;simp only[List.take,List.all_cons,List.all_nil,id,Bool.and_true,hM] at H⊢;simp[g]
 . have d:decide (((1:Nat):Int)<4)=U:=rfl;refine b6 d j f ?_;refine ch s ?_;rintro v N ⟨rfl,rfl⟩;refine ah ?_;apply dt<;>intro g
   . refine ah ?_;refine bE k ⟨rfl,rfl,?_⟩;simp only[List.take,List.all_cons,List.all_nil,id,Bool.and_true,bL,hM] at H⊢;simp[g,H]
   . refine bN h e ?_;simp[g]
 . have d:decide (((2:Nat):Int)<4)=U:=rfl;refine b6 d j f ?_;refine ch t ?_;rintro v N ⟨rfl,rfl⟩;refine ah ?_;apply dt<;>intro g
   . refine ah ?_;refine bE k ⟨rfl,rfl,?_⟩;simp only[List.take,List.all_cons,List.all_nil,id,Bool.and_true,bL,hM] at H⊢;simp[g,H]
   . refine bN h e ?_;simp[g]
 . have d:decide (((3:Nat):Int)<4)=U:=rfl;refine b6 d j f ?_;refine ch w ?_;rintro v N ⟨rfl,rfl⟩;refine ah ?_;apply dt<;>intro g
   . refine ah ?_;refine bE k ⟨rfl,rfl,?_⟩;simp only[List.take,List.all_cons,List.all_nil,id,Bool.and_true,bL,hM] at H⊢;simp[g,H]
   . refine bN h e ?_;simp[g]
def adR(n:ak)(q:aG)(r:aV)(j:0<=r.gJ/\r.gJ<n.ey.length)(h:uK n.ey):bq aH 68 [.agg n.row,.agg q.row,.agg r.row] (λv=>v=.bool (v4 n q r)):=by
 obtain⟨u,e⟩:∃u,n.ey[r.gJ.toNat]? =I u:=⟨n.ey[r.gJ.toNat]'J,by simp⟩;have g:=(h.2 _ u e).2.1;refine bB U6 ?_;have f:∀(a b c d:au),oF [V.ff,V.ff,V.ff,V.ff] 4 [(0,1,V.cI 131 []),(1,1,V.fn 132 [V.ptr 1 0]),(2,1,V.fn 133 [V.ptr 3 0,V.ptr 1 0]),(3,1,V.fn 134 [V.ptr 1 0,V.ptr 3 0])] [a,b,c,d]=
  I (.an 4 0 0 4,[a,b,c,d,.b7 [.cI 131 [],.fn 132 [.ptr 1 0],.fn 133 [.ptr 3 0,.ptr 1 0],.fn 134 [.ptr 1 0,.ptr 3 0]] 0]):=λ_ _ _ _=>rfl;refine he @ak.row.eq_1 @aG.row.eq_1 @aV.row.eq_1 e @ec.row.eq_1 f ?_;have key:=adQ r q u (M:=[.box n.row,.box q.row,.box r.row,.box u.row,.b7 [.cI 131 [],.fn 132 [.ptr 1 0],.fn 133 [.ptr 3 0,.ptr 1 0],.fn 134 [.ptr 1 0,.ptr 3 0]] 0]) (a:=1) (b:=3) (c:=4) rfl rfl rfl
  (by simp[b4,au.under,cd,V.under,ak.row,aG.row,aV.row,ec.row]) g;simp only[ak.row,aG.row,aV.row,ec.row] at key;refine ch key ?_;rintro v i ⟨rfl,rfl⟩;refine ah ?_;simp only[v4,e]
def xK(q:aG)(s:Stop):Bool:=s.bH||!q.bH
def aab(n:ak)(q:aG)(i:Nat)(s:Stop)(ae:n.aB[i]? =I s):bq aH 135 [.agg n.row,.agg q.row,aa i] (λv=>v=.bool (xK q s)):=by
 refine bB UW (d0 @ak.row.eq_1 @aG.row.eq_1 ae @Stop.row.eq_1 ?_);apply dt<;>intro g
 . exact pj @xK.eq_1 g @Bool.true_or
 . exact pj @xK.eq_1 g @Bool.false_or
def f6(n:ak)(q:aG)(c:aZ):aZ:=match n.aB[c.stop.toNat]? with
 |some s=>if xK q s=U then c else{c with cM:=ad,ct:=ad}
 |none=>c
def md{b bytes id ver n:Nat}{a:List (List V)}{r:List V}{M:Mem}(c:M[id]? =I (.aj b a ver 0))(f:a.length=n)(g:r.length=b)(d:(n+1)*(2*bytes)<=2^48):
 cw ad b bytes (.an id ver 0 n) (.slice [r] .full) M=I (.an id (ver+1) 0 (n+1),M.set id (.aj b (a++[r]) (ver+1) 0)):=by
 subst f;have e:decide ((a.length+1)*(2*bytes)<=2^48)=U:=be d;simp only[cw,dg,dP,g,cc,eu,dm,beq_self_eq_true,bi,eU,c,cR,e]
def SB(n:ak)(q:aG)(l:List aZ)(c:cg)(D:l.length<=1000)(C:∀x∈l,0<=x.stop/\x.stop<n.aB.length):
 bq aH 69 [.agg n.row,.agg q.row,.slice (l.map aZ.row) c] (λv=>v=.slice (l.map λx=>(f6 n q x).row) .bF):=by
 refine bB UU (bN @ak.row.eq_1 @aG.row.eq_1 ?_);refine c6 l (λi m M=>∃ver,m=[.ptr 0 0,.ptr 1 0,.an 2 ver 0 i,.slice (l.map aZ.row) c,aa l.length,aa i]/\M=[.box n.row,.box q.row,.aj 5 ((l.take i).map λx=>(f6 n q x).row) ver 0]) ⟨0,rfl,rfl⟩ ?_ ?_;rotate_left
 . rintro m M ⟨ver,rfl,rfl⟩;refine aL @bV ?_;rw[f_];have t:(l.map λx=>(f6 n q x).row).length=l.length:=by simp
   generalize(l.map λx=>(f6 n q x).row)=f at t⊢;have w:=rj (sz:=5) (id:=2) (ver:=ver) (n:=l.length) (rows:=f) (fz:=0) (M:=[.box n.row,.box q.row,.aj 5 f ver 0]) rfl t;have z:f.take l.length=f:=eS J;have A:decide (l.length<=f.length)=U:=bR;simp-implicitDefEqProofs (disch:=omega) only[go_sem,↓aX 29,w,z,A]
 rintro i x m M k r B ⟨ver,rfl,rfl⟩;obtain⟨E,bP⟩:=C x (bI k);obtain⟨s,ae⟩:∃s,n.aB[x.stop.toNat]? =I s:=⟨n.aB[x.stop.toNat]'J,by simp⟩;have h:=aab n q x.stop.toNat s ae;rw[show((x.stop.toNat:Nat):Int)=x.stop by omega] at h;simp only[ak.row,aG.row] at h;have u:((l.take i).map λx=>(f6 n q x).row).length=i:=by simp;omega
 have e:((l.take i).map λx=>(f6 n q x).row)++[(f6 n q x).row]=(l.take (i+1)).map λx=>(f6 n q x).row:=by rw[gM,k];simp
 generalize((l.take i).map λx=>(f6 n q x).row)=R at e u⊢;have p:∀(a b d:au)(y:aZ),cw ad 5 32 (.an 2 ver 0 i) (.slice [[aa y.stop,aa y.aQ,aa y.aR,.bool y.cM,.bool y.ct]] .full) [a,b,.aj 5 R ver 0,d]=
  I (.an 2 (ver+1) 0 (i+1),[a,b,.aj 5 (R++[y.row]) (ver+1) 0,d]):=λa b d y=>md rfl u rfl J;refine es B k @aZ.row.eq_1 @ak.row.eq_1 @aG.row.eq_1 ?_;refine bG h (ah ?_);apply dt<;>intro g
 . have j:f6 n q x=x:=by unfold f6;rw[ae];simp[g]
   rw[j] at e;simp-implicitDefEqProofs (disch:=omega) only[go_sem,p _ _ _ x,e];exact cN r rfl ⟨ver+1,rfl,rfl⟩
 . have j:f6 n q x={x with cM:=ad,ct:=ad}:=by unfold f6;rw[ae];simp[g]
   rw[j] at e;have o:=λa b d=>p a b d {x with cM:=ad,ct:=ad};simp only at o;refine bN o e ?_;exact cN r rfl ⟨ver+1,rfl,rfl⟩
def tN(n low high:Int):bq aH 70 [aa n,aa low,aa high] (λv=>v=.bool (decide (low<=n/\n<=high))):=by
 refine bB UO (ah ?_);apply aW<;>intro h
 . refine ah ?_;exact decide_eq_decide.2 J
 . refine ah ?_;symm;exact h8
def wb(n:ak)(q:aG)(c:n.wf)(ok:di n)(al:ka n.aB.length q):bq aH 32 [.agg n.row,.agg q.row] (λv=>v=v0):=by
 have a:=t7 n c ok;have ae:=ok.aB;obtain⟨k,l,m,o,p,r,d⟩:=al;simp only[ak.row] at a;refine bB UM (bN @ak.row.eq_1 @aG.row.eq_1 ?_);refine bG a (ah ?_);refine bG (tN _ _ _) ?_;have e:decide (0<=q.src/\q.src<=(n.aB.length:Int) -1)=U:=bR;refine aL e ?_;refine bG (tN _ _ _) ?_;have dD:decide (0<=q.dst/\q.dst<=(n.aB.length:Int) -1)=U:=bR;refine aL dD ?_;refine bG (tN _ _ _) ?_;have f:decide (0<=q.aM/\q.aM<=3155932800)=U:=bR;refine aL f ?_;refine bG (tN _ _ _) ?_;have h:decide (0<=q.aY/\q.aY<=8)=U:=bR;refine aL h ?_;refine bG (tN _ _ _) ?_;have i:decide (0<=q.bD/\q.bD<=86400)=U:=bR;refine aL i ?_;refine bG (tN _ _ _) ?_;have j:decide (0<=q.dn/\q.dn<=255)=U:=bR;refine aL j ?_;apply dt<;>intro g
 . refine ah ?_;refine dt (λb=>aJ ⟨g,b⟩ d) (λ_=>?_);exact kF
 . exact kF
def hI(n:ak)(q:aG)(r:aV):aV:={r with ds:=!v4 n q r,aO:=r.aO.map (f6 n q),tag:=.bF}
def vb(l:List bb):cg:=match l with|[]=>.nil|_::_=>.bF
def c8(n:ak)(q:aG):ak:=
 {aB:=n.aB,ey:=n.ey,ar:=n.ar.map (hI n q),bj:=n.bj
  bw:=if q.bH=U then n.bw.filter (·.bH) else n.bw
  bQ:={n.bQ with tag:=eC n.bQ.bU.length}
  ij:=eC n.aB.length,rc:=eC n.ey.length,jx:=eC n.ar.length,lc:=eC n.bj.length
  la:=if q.bH=U then vb (n.bw.filter (·.bH)) else eC n.bw.length}
def uI(k:Nat)(L:Mem)(x:V)(done:List bb):Prop:=(x=.slice [] .nil/\done=[])∨∃b ver,x=.an (k+1+b) ver 0 done.length/\L[b]? =I (.aj 4 (done.map bb.row) ver 0)/\0<done.length
def Cx{k:Nat}{L:Mem}{x:V}{done:List bb}(h:uI k L x done)(K:Mem):uI k (L++K) x done:=by
 rcases h with h|⟨b,ver,a,c,d⟩
 . exact .inl h
 . exact .inr ⟨b,ver,a,a0 c K,d⟩
def O6{P:Mem}{k:Nat}(d:P.length=k){L:Mem}{x:V}{done:List bb}(h:uI k L x done)(B:au)(p:bb)(j:done.length<=1000):
 ∃b ver a,cw ad 4 32 x (.slice [[aa p.src,aa p.dst,aa p.bs,.bool p.bH]] .full) (P++B::L)=I (.an (k+1+b) ver 0 (done.length+1),P++B::a)/\a[b]? =I (.aj 4 ((done++[p]).map bb.row) ver 0):=by
 have e:∀K:Mem,P++B::K=(P++[B])++K:=λK=>by simp
 have f:(P++[B]).length=k+1:=by simp[d]
 rcases h with⟨rfl,rfl⟩|⟨b,ver,rfl,c,_⟩
 . refine⟨L.length,0,L++[.aj 4 [[aa p.src,aa p.dst,aa p.bs,.bool p.bH]] 0 0],?_,cE L _⟩;have i:(P++B::L).length=k+1+L.length:=by simp[d];omega
   simp only[cw,dg,eU,dP,cc,eu,dm,beq_self_eq_true,bi,Nat.reduceMul,Nat.reducePow,Nat.reduceLeDiff,decide_true,Bool.true_or,cR,eH,i,cS,fG]
 . refine⟨b,ver+1,L.set b (.aj 4 (done.map bb.row++[p.row]) (ver+1) 0),?_,?_⟩
   . have g:(P++B::L)[k+1+b]? =I (.aj 4 (done.map bb.row) ver 0):=by rw[e,<-f,fW];exact c
     have:=md (bytes:=32) (n:=done.length) (r:=p.row) g (by simp) rfl J;refine Eq.trans this ?_;rw[e L,e (L.set b _),<-f,ju]
   . rw[bY (az.1 c).1];simp
def C7{P:Mem}{k:Nat}(q:P.length=k)(n:ak)(O:n.bw.length<=60)(c d e f j l m o r:V)(Q:Exit->av->Mem->Prop)
 (G:∀s x L,aE s 4=r->aE s 7=.ptr k 0->uI k L x (n.bw.filter (·.bH))->Q .normal s (P++.box [c,d,e,f,x,j,l,m,o]::L)):
 ck aH DK Q [(4,r),(7,.ptr k 0),(54,.slice (n.bw.map bb.row) n.la),(55,aa n.bw.length),(56,v0)] (P++[.box [c,d,e,f,.slice [] .nil,j,l,m,o]]):=by
 refine fE (aX 55) ?_;refine c6 n.bw (λi t N=>∃x L,t=[r,.ptr k 0,.slice (n.bw.map bb.row) n.la,aa n.bw.length,aa i]/\N=P++.box [c,d,e,f,x,j,l,m,o]::L/\uI k L x ((n.bw.take i).filter (·.bH))) ⟨_,[],rfl,rfl,.inl ⟨rfl,by simp⟩⟩ ?_ ?_;rotate_left
 . rintro t N ⟨x,L,rfl,rfl,h⟩;rw[f_] at h;refine aL @bV ?_;exact G _ x L rfl rfl h
 rintro i p t N y w H ⟨x,L,rfl,rfl,h⟩;have a:(n.bw.take (i+1)).filter (·.bH)=(n.bw.take i).filter (·.bH)++if p.bH=U then[p] else[]:=by rw[gM,y,List.filter_append];cases M:p.bH<;>simp[M]
 have R:((n.bw.take i).filter (·.bH)).length<=60:=fJ (lZ _ _) (by rw[fh];omega);obtain⟨b,ver,z,v,F⟩:=O6 q (Cx h [.box p.row]) (.box [c,d,e,f,x,j,l,m,o]) p J;have A:∀(B:au)(K:Mem),(P++B::K)[k]? =I B:=λB K=>by rw[<-q,cE];rfl
 have D:∀(B C:au)(K:Mem),(P++B::K).set k C=P++C::K:=λB C K=>by rw[<-q,iJ];rfl
 have u:∀(B Z:au),(P++B::(L++[Z]))[P.length+(L.length+1)]? =I Z:=λB Z=>by rw[fW,List.getElem?_cons_succ,cE];rfl
 have E:∀(B Z Y:au),(P++B::(L++[Z])).set (P.length+(L.length+1)) Y=P++B::(L++[Y]):=λB Z Y=>by rw[ju,List.set_cons_succ,iJ];rfl
 simp-implicitDefEqProofs (disch:=omega) only[go_sem,H,y,bb.row,cS,fG,u,E];simp only[bb.row] at v;apply dt<;>intro g
 . rw[aF g] at a;refine d0 A D u v ?_;refine bE w ⟨_,z,rfl,rfl,.inr ⟨b,ver,by rw[a,b0];rfl,by rw[a];exact F,by rw[a];simp⟩⟩
 . rw[ax (by rw[g];simp),ez] at a;refine ah ?_;refine bE w ⟨x,L++[.box p.row],rfl,rfl,by rw[a];exact Cx h _⟩
def Uk(n:ak)(q:aG)(r:aV):(hI n q r).row=[aa r.oc,aa r.mh,aa r.nb,.str r.id,aa r.gJ,.bool r.bH,.bool (!v4 n q r),.slice (r.aO.map λx=>(f6 n q x).row) .bF]:=by simp[hI,aV.row]
theorem v_(n:ak)(q:aG)(aI:n.wf)(ok:di n)(al:ka n.aB.length q):bq aH 31 [.agg n.row,.agg q.row] (λv=>v=.tuple [.agg (c8 n q).row,v0]):=by
 have am:=wb n q aI ok al;obtain⟨aD,ba,bA,a3,aw,ax⟩:=ok;have a2:=aD.aB.1;have a1:=aD.ey.1;have a0:=(tz (by rw[aD.bQ])).len;have ai:bx aH 67 [.agg n.row] [.box n.row,.box q.row,.box ip] (λv G=>v=.agg (gS n 6 (.slice (n.bQ.bU.map cv.row) (eC n.bQ.bU.length)))/\∃j e:au,j.under 8=U/\e.under 8=U/\G=[.box n.row,.box q.row,.box ip]++([j,e,e]++qa 8 (n.ar.map λr=>r.fresh.row))):=
  bx.mono (MW n [.box n.row,.box q.row,.box ip] J J J J J J (λr c=>by have:=ax r c;omega)) λv G h=>⟨h.1,_,_,by simp[au.under,cd,V.under,ak.row],by simp only[au.under,gS];cases n.ar<;>simp[hv,cd,V.under],h.2⟩;refine bB UQ ?_;simp only[ak.row,aG.row,ip] at am ai;refine bN @ak.row.eq_1 @aG.row.eq_1 ?_;refine bG am (ah ?_);refine ch ai ?_;rintro v G ⟨rfl,j,e,aS,aT,rfl⟩;cases c:n.ar with
 |nil=>
  refine es c @hv.eq_1 @qa.eq_1 @jD.{0,0} @gS.eq_1 ?_;refine d4 0 (λi y N=>y=[.ptr 0 0,.ptr 1 0,.ptr 2 0,.ptr 6 0,.slice [] n.jx,aa ((0:Nat):Int),aa i]/\N=[.box n.row,.box q.row,.box ip,j,e,e,.box (gS n 6 (.slice (n.bQ.bU.map cv.row) (eC n.bQ.bU.length)))]) ⟨rfl,by simp[ak.row,aG.row,ip,gS,c,hv]⟩ ?_ ?_
  . intro i _ _ z;omega
  rintro y N ⟨rfl,rfl⟩;refine mI @bV @ak.row.eq_1 @aG.row.eq_1 @gS.eq_1 c @hv.eq_1 @jD.{0,0} ?_;apply dt<;>intro g
  . refine he @ak.row.eq_1 @aG.row.eq_1 @gS.eq_1 c @hv.eq_1 @jD.{0,0} ?_;refine C7 (k:=6) (P:=[_,_,_,j,e,e]) rfl n aw _ _ _ _ _ _ _ _ _ _ λs x L B C ab=>?_;rcases ab with⟨rfl,Z⟩|⟨b,ver,rfl,Q,A⟩
    . refine lk (aX 61) B C @ip.eq_1 ?_;simp[c8,g,c,Z,vb,eC]
    . have Y:∀l m o p t u w:au,(l::m::o::p::t::u::w::L)[7+b]? =I (.aj 4 ((n.bw.filter (·.bH)).map bb.row) ver 0):=λl m o p t u w=>(fW [l,m,o,p,t,u,w] L b).trans Q;have ae:((n.bw.filter (·.bH)).map bb.row).take (n.bw.filter (·.bH)).length=(n.bw.filter (·.bH)).map bb.row:=eS (by simp);have K:decide (7+b<0)=ad:=decide_eq_false (c9 _);have X:vb (n.bw.filter (·.bH))=.bF:=by
       cases W:n.bw.filter (·.bH) with
       |nil=>rw[W] at A;cases A
       |cons _ _=>rfl
      simp-implicitDefEqProofs (disch:=omega) only[go_sem,↓aX 61,B,C,ip,Y,ae,K];simp[c8,g,c,X,eC]
  . simp-implicitDefEqProofs (disch:=omega) only[go_sem,↓aX 61,ip,ak.row,aG.row,gS,c,hv,jD];simp[c8,g,c,eC]
 |cons d a=>
 have aU:a.length+1<=7:=by rw[c] at bA;exact bA
 have aK:∀(i:Nat)(r:aV),(d::a)[i]? =I r->n.ar[i]? =I r:=λi r h=>by rw[c];exact h
 simp-implicitDefEqProofs (disch:=omega) only[go_sem,c,hv,qa,gg,gS];refine c6 (d::a) (λi y N=>y=[.ptr 0 0,.ptr 1 0,.ptr 2 0,.ptr 7 0,.slice ((d::a).map aV.row) n.jx,aa (d::a).length,aa i]/\
  N=[.box n.row,.box q.row,.box ip,j,e,e,.aj 8 (iZ (λr=>(hI n q r).row) (λr=>r.fresh.row) (d::a) i) 0 0,.box (gS n 6 (.slice (n.bQ.bU.map cv.row) (eC n.bQ.bU.length)))]) ⟨rfl,by simp[ak.row,aG.row,ip,gS,c,hv,iZ]⟩ ?_ ?_;rotate_left
 . rintro y N ⟨rfl,rfl⟩;have aR:=Jr (λr:aV=>(hI n q r).row) (λr=>r.fresh.row) (d::a);rw[aR];generalize D:(d::a).map (λr=>(hI n q r).row)=R;refine mI @bV @ak.row.eq_1 @aG.row.eq_1 @gS.eq_1 c @hv.eq_1 @gg.{0,0} ?_;have aW:R.length=a.length+1:=by rw[<-D];simp
   have O:R.take (a.length+1)=R:=eS J;have M:decide (a.length+1<=R.length)=U:=bR;apply dt<;>intro g
   . simp-implicitDefEqProofs (disch:=omega) only[go_sem,ak.row,aG.row,gS,c,hv,gg];refine C7 (k:=7) (P:=[_,_,_,j,e,e,_]) rfl n aw _ _ _ _ _ _ _ _ _ _ λs x L B C ab=>?_;rcases ab with⟨rfl,Z⟩|⟨b,ver,rfl,Q,A⟩
     . simp-implicitDefEqProofs (disch:=omega) only[go_sem,↓aX 61,B,C,ip,O,M];simp[c8,g,c,Z,vb,eC,<-D]
     . have Y:∀l m o p t u w H:au,(l::m::o::p::t::u::w::H::L)[8+b]? =I (.aj 4 ((n.bw.filter (·.bH)).map bb.row) ver 0):=λl m o p t u w H=>(fW [l,m,o,p,t,u,w,H] L b).trans Q;have ae:((n.bw.filter (·.bH)).map bb.row).take (n.bw.filter (·.bH)).length=(n.bw.filter (·.bH)).map bb.row:=eS (by simp);have K:decide (8+b<0)=ad:=decide_eq_false (c9 _);have X:vb (n.bw.filter (·.bH))=.bF:=by
        cases W:n.bw.filter (·.bH) with
        |nil=>rw[W] at A;cases A
        |cons _ _=>rfl
       simp-implicitDefEqProofs (disch:=omega) only[go_sem,↓aX 61,B,C,ip,Y,ae,K,O,M];simp[c8,g,c,X,eC,<-D]
   . simp-implicitDefEqProofs (disch:=omega) only[go_sem,↓aX 61,ip,O,M,ak.row,aG.row,gS,c,hv,gg];simp[c8,g,c,eC,<-D]
 rintro i r y N E z T ⟨rfl,rfl⟩;have aq:=aK i r E;have aJ:r∈n.ar:=bI aq;have T:decide ((i:Int)<((a.length+1:Nat):Int))=U:=T;have z:i<a.length+1:=z;have an:decide (i<a.length+1)=U:=be z;have aY:decide (a.length+1<=a.length+1)=U:=be (bk _);have ap:=aD.ar.2 i r aq;have aC:=ap.2.2.2.2.2.1;have av:=adR n q r ap.2.2.2.2.1 aD.ey;have S:=SB n q r.aO r.tag (by have:=ax r aJ;omega) (λx aM=>by
  obtain⟨k,aF⟩:=eb aM;exact(aC.2.2 k x aF).1);generalize aL:(r.aO.map λx=>(f6 n q x).row)=aA at S;simp only[ak.row,aG.row,aV.row,c,gg] at av S;have ao:((d::a).map aV.row)[i]? =I [aa r.oc,aa r.mh,aa r.nb,.str r.id,aa r.gJ,.bool r.bH,.bool r.ds,.slice (r.aO.map aZ.row) r.tag]:=by
  rw[dK,E];rfl
 have F:=Jt (λr:aV=>(hI n q r).row) (λr:aV=>r.fresh.row) (d::a) i;rw[show(d::a).length=a.length+1 from rfl] at F;have ay:(iZ (λr:aV=>(hI n q r).row) (λr:aV=>r.fresh.row) (d::a) i)[i]? =I [aa r.oc,aa r.mh,aa r.nb,.str r.id,aa r.gJ,.bool r.bH,.bool r.ds,.slice (r.aO.map aZ.row) (eC r.aO.length)]:=Js E;have az:(iZ (λr:aV=>(hI n q r).row) (λr:aV=>r.fresh.row) (d::a) i).set i [aa r.oc,aa r.mh,aa r.nb,.str r.id,aa r.gJ,.bool r.bH,.bool (!v4 n q r),.slice aA .bF]=iZ (λr:aV=>(hI n q r).row) (λr:aV=>r.fresh.row) (d::a) (i+1):=by have:=Ju (f:=λr:aV=>(hI n q r).row) (g:=λr:aV=>r.fresh.row) E;simp only[Uk n q r,aL] at this;exact this
 generalize iZ (λr:aV=>(hI n q r).row) (λr:aV=>r.fresh.row) (d::a) i=R at F ay az⊢;have aN:∀row:List V,(R.set i row)[i]? =I row:=λrow=>bY J;have aP:∀row af:List V,(R.set i row).set i af=R.set i af:=λrow af=>h3 ..;have aQ:∀row:List V,(R.set i row).length=a.length+1:=λrow=>by rw[cW];exact F
 rw[gg] at ao;simp-implicitDefEqProofs (disch:=omega) only[go_sem,T,ao,ak.row,aG.row,gS,c,hv,gg,cc,cz];refine nO av (b6 F ay an ?_);refine nO S (es az aN aP aQ an ?_);exact cN z (by simp only[gu,cC,aE,cd,b4,ip,aS,aT,List.take];simp[au.under,cd,V.under]) ⟨rfl,by simp[ak.row,aG.row,gS,c,hv,ip]⟩
theorem uk(n:ak)(q:aG)(c:aZ):(f6 n q c).stop=c.stop:=by
 unfold f6;split
 . split<;>rfl
 . rfl
theorem La(n:ak)(q:aG)(c:aZ):(f6 n q c).aQ=c.aQ:=by
 unfold f6;split
 . split<;>rfl
 . rfl
theorem BD(n:ak)(q:aG)(c:aZ):(f6 n q c).aR=c.aR:=by
 unfold f6;split
 . split<;>rfl
 . rfl
def map_some{α β:Type}{f:α->β}{l:List α}{i:Nat}{y:β}(h:(l.map f)[i]? =I y):∃x,l[i]? =I x/\y=f x:=by rw[dK] at h;obtain⟨x,a,rfl⟩:=cL.1 h;exact⟨x,a,rfl⟩
def R7(n:ak)(q:aG){l:List aZ}{a low high:Int}(h:rD l a low high):rD (l.map (f6 n q)) a low high:=by refine⟨by rw[cz];exact h.1,by rw[cz];exact h.2.1,λi c f=>?_⟩;obtain⟨x,k,rfl⟩:=map_some f;obtain⟨b,d,e⟩:=h.2.2 i x k;rw[uk,La,BD];refine⟨b,d,λp g j=>?_⟩;obtain⟨y,m,rfl⟩:=map_some j;rw[uk,BD];exact e y g m
def ab_(n:ak)(q:aG)(h:tp n):tp (c8 n q):=by refine⟨by simp[c8];exact h.1,λi r m=>?_⟩;obtain⟨x,p,rfl⟩:=map_some (show(n.ar.map (hI n q))[i]? =I r from m);obtain⟨a,b,c,d,e,f,g⟩:=h.2 i x p;refine⟨a,b,c,d,e,R7 n q f,λk o j l=>?_⟩;obtain⟨y,s,rfl⟩:=map_some (show(n.ar.map (hI n q))[k]? =I o from l);exact g k y j s
def YN(n:ak)(q:aG)(h:tk n):tk (c8 n q):=by
 refine⟨h.1,λi l z=>?_⟩;have e:=h.2 i l z;have g:(c8 n q).ar.length=n.ar.length:=by simp[c8]
 refine⟨by rw[g];exact e.src,by rw[g];exact e.dst,e.ne,λa b r s=>?_,e.ry,e.bH,e.key⟩;obtain⟨x,C,rfl⟩:=map_some (show(n.ar.map (hI n q))[l.src.toNat]? =I a from r);obtain⟨y,D,rfl⟩:=map_some (show(n.ar.map (hI n q))[l.dst.toNat]? =I b from s);obtain⟨k,m,o,p⟩:=e.aO x y C D;have f:(hI n q x).aO.length=x.aO.length:=by simp[hI]
 have j:(hI n q y).aO.length=y.aO.length:=by simp[hI]
 refine⟨by rw[f];exact k,by rw[j];exact m,λc d t v=>?_,λae=>by rw[f];exact p ae⟩;obtain⟨u,A,rfl⟩:=map_some (show(x.aO.map (f6 n q))[l.fg.toNat]? =I c from t);obtain⟨w,B,rfl⟩:=map_some (show(y.aO.map (f6 n q))[l.ea.toNat]? =I d from v);rw[uk,uk];exact o u w A B
def K2(o p:bb):Prop:=o.src=p.src/\o.dst=p.dst/\o.bH=p.bH
def BF(l:List bb)(N:Nat):nJ l N↔(∀p∈l,p.h_ N/\p.src≠p.dst)/\l.Pairwise λo p=>¬K2 o p:=by
 constructor
 . intro h;refine⟨λp b=>?_,List.pairwise_iff_getElem.2 λi j a g f=>?_⟩
   . obtain⟨i,a⟩:=eb b;exact⟨(h i p a).1,(h i p a).2.1⟩
   . exact(h j l[j] (cG g)).2.2 i l[i] f (cG a)
 . rintro⟨d,e⟩ i p b;have c:=d p (bI b);refine⟨c.1,c.2,λk o m q=>?_⟩;obtain⟨a,rfl⟩:=az.1 b;obtain⟨n,rfl⟩:=az.1 q;exact List.pairwise_iff_getElem.1 e k i n a m
def acT{l:List bb}{N:Nat}(f:bb->Bool)(h:nJ l N):nJ (l.filter f) N:=by rw[BF] at h⊢;exact⟨λp a=>h.1 p (jf.1 a).1,h.2.filter _⟩
def Ey{l:List bb}{N:Nat}{F:Nat->Nat->Int}(bh:Bool)(h:l6 l N U F):l6 (l.filter (·.bH)) N bh F:=by refine⟨λp a _=>?_,h.rp,λD e f i j g k=>h.ng D e (λp a b=>f p (jf.2 ⟨a,b rfl⟩) λ_=>b rfl) i j g k,h.iR⟩;obtain⟨c,d⟩:=jf.1 a;exact h.nR p c λ_=>d
def Se{W F:Nat->Nat->Int}{i k:Nat}(c:i≠k->W i k<=F i k):(jn W F i k).filter (·.bH)=jn F F i k:=by
 unfold jn;by_cases a:i=k
 . rw[aF (.inl a),aF (.inl a)];rfl
 have f:=c a;by_cases e:14400<W i k
 . rw[aF (.inr e),aF (.inr J)];rfl
 rw[ax (show¬(i=k∨14400<W i k) by omega)];by_cases d:14400<F i k
 . rw[aF (show i=k∨14400<F i k from .inr d),ax (show¬(W i k<F i k/\F i k<=14400) by omega)];simp;omega
 . rw[ax (show¬(i=k∨14400<F i k) by omega),ax (show¬(F i k<F i k/\F i k<=14400) by omega)];by_cases b:F i k=W i k
   . rw[ax (show¬(W i k<F i k/\F i k<=14400) by omega)];simp[b]
   . rw[aF (show W i k<F i k/\F i k<=14400 by omega)];simp[b]
theorem E2{α β:Type}{l:List α}{f g:α->List β}(h:∀x∈l,f x=g x):l.flatMap f=l.flatMap g:=by
 induction l with
 |nil=>rfl
 |cons a l c=>rw[List.flatMap_cons,List.flatMap_cons,h a (by simp),c λx b=>h x (by simp[b])]
def SA{l:List bb}{N:Nat}(e:∀p∈l,p.h_ N)(h:qm l N):qm (l.filter (·.bH)) N:=by
 obtain⟨W,F,d,a,f⟩:=h;refine⟨F,F,Ey ad a,Ey U a,?_⟩;have g:∀i k,i<N->k<N->i≠k->W i k<=F i k:=λi k b c j=>Ez d a e b c (cA j);conv=>lhs;rw[f]
 unfold fb;rw[List.filter_flatMap];refine E2 λi b=>?_;unfold jp;rw[List.filter_flatMap];exact E2 λk c=>Se (g i k (hh.1 b) (hh.1 c))
def tt(n:ak)(q:aG)(ok:di n):di (c8 n q):=by
 obtain⟨⟨l,bP,m,o,a,c,s⟩,ba,bA,j,b,k⟩:=ok;have e:∀p∈n.bw,p.h_ n.aB.length:=λp f=>by obtain⟨i,d⟩:=eb f;exact(a i p d).1
 refine⟨⟨l,bP,ab_ n q m,YN n q o,?_,?_,s⟩,ba,by simp[c8];exact bA,j,?_,λr g=>?_⟩
 . show nJ (if q.bH=U then n.bw.filter (·.bH) else n.bw) n.aB.length;split
   . exact acT _ a
   . exact a
 . show qm (if q.bH=U then n.bw.filter (·.bH) else n.bw) n.aB.length;split
   . exact SA e c
   . exact c
 . show(if q.bH=U then n.bw.filter (·.bH) else n.bw).length<=60;split
   . exact fJ (lZ _ _) b
   . exact b
 . obtain⟨x,h,rfl⟩:=gY.1 (show r∈n.ar.map (hI n q) from g);simp only[hI,cz];exact k x h
def acx(n:ak)(q:aG){c:aZ}(h:c.wf):(f6 n q c).wf:=by unfold aZ.wf at h⊢;rw[uk,La,BD];exact h
def wy(n:ak)(q:aG)(o:n.wf):(c8 n q).wf:=by
 obtain⟨j,k,i,l,h,m⟩:=o;refine⟨j,k,⟨λr p=>?_,by simp[c8];exact i.2⟩,l,?_,m⟩
 . obtain⟨x,t,rfl⟩:=gY.1 (show r∈n.ar.map (hI n q) from p);obtain⟨a,b,c,d,e,f,g⟩:=i.1 x t;refine⟨a,b,c,d,e,λy u=>?_,by simp[hI];exact g⟩;obtain⟨z,v,rfl⟩:=gY.1 (show y∈x.aO.map (f6 n q) from u);exact acx n q (f z v)
 . show(∀s∈(if q.bH=U then n.bw.filter (·.bH) else n.bw),s.wf)/\(if q.bH=U then n.bw.filter (·.bH) else n.bw).length<=maxLen;split
   . exact⟨λs ae=>h.1 s (jf.1 ae).1,fJ (lZ _ _) h.2⟩
   . exact h
def g0(z:Int):Nat:=if 0<=z/\z<=63 then 2^z.toNat else 0
def A1(z:Int):g0 z<18446744073709551616:=by
 unfold g0;split
 . exact Ma J
 . omega
def Dm(z:Int):bq aH 85 [aa z] (λv=>v=.int .u64 (g0 z:Nat)):=by
 refine bB Fj (ah ?_);apply aW<;>intro h
 . refine ah ?_;rw[g0,ax J];rfl
 refine ah ?_;apply aW<;>intro d
 . refine ah ?_;rw[g0,ax J];rfl
 have c:cT .shl .none (.int .u64 1) (aa z)=I (.int .u64 (g0 z:Nat)):=by
  show lT .shl .u64 1 z=_;unfold lT;rw[decide_eq_false h];have a:min z.toNat IntKind.u64.bits=z.toNat:=by show min z.toNat 64=z.toNat;omega
  have b:(1:Int)*2^z.toNat=((2^z.toNat:Nat):Int):=by simp
  simp only[eE,a,b];rw[v9 _ (Ma J),g0,aF ⟨J,J⟩]
 exact jy c
def QT(s:Nat)(z:Int)(ae:s<18446744073709551616):bq aH 84 [.int .u64 s,aa z] (λv=>v=.int .u64 ((s|||g0 z:Nat):Int)):=by refine bB Ff (ah ?_);exact bG (Dm z) (jy (vJ s (g0 z) ae (A1 z)))
def QS(z:Int):bq aH 40 [.slice [[aa z]] .full] (λv=>v=.int .u64 (g0 z:Nat)):=by
 have b:=vJ 0 (g0 z) J (A1 z);rw[Nat.zero_or] at b;refine bB E9 (ah ?_);refine c6 [z] (λi c M=>c=[.int .u64 (if i=0 then 0 else(g0 z:Int)),.slice [[aa z]] .full,aa ([z]:List Int).length,aa i]/\M=[]) ⟨rfl,rfl⟩ ?_ ?_;rotate_left
 . rintro c M ⟨rfl,rfl⟩;refine aL @bV ?_;rfl
 rintro i x c M d a j ⟨rfl,rfl⟩;have f:i=0:=by simp at a;exact a
 subst f;have g:x=z:=by simp at d;exact d.symm
 subst g;have e:decide (((0:Nat):Int)<((1:Nat):Int))=U:=rfl;refine aL e ?_;refine bG (Dm x) ?_;have h:cT .or .none (.int .u64 0) (.int .u64 (g0 x:Nat))=I (.int .u64 (g0 x:Nat)):=by show I (V.int .u64 (lN .u64 ((0:Nat):Int) (g0 x:Nat)))=_;rw[b]
 refine ah ?_;refine bE a ⟨?_,rfl⟩;simpa[cC,aE] using b
structure a7 where
 bl:Bool
 run:Int
 cM:Int
 ct:Int
 src:Int
 dst:Int
 aR:Int
 aQ:Int
 aT:Bool
def a7.row(l:a7):List V:=[.bool l.bl,aa l.run,aa l.cM,aa l.ct,aa l.src,aa l.dst,aa l.aR,aa l.aQ,.bool l.aT]
def ku(n:ak)(l:a7):Bool:=decide (0<=l.run)&&match n.ar[l.run.toNat]? with
 |some r=>decide (0<=l.cM)&&(decide (l.cM<l.ct)&&decide (l.ct<r.aO.length))
 |none=>ad
theorem TN(n:ak)(l:a7):bq aH 41 [.agg n.row,.agg l.row] (λv=>v=.bool (ku n l)):=by
 refine bB Gy (bN @ak.row.eq_1 @a7.row.eq_1 ?_);apply cF<;>intro b
 . refine ah ?_;rw[ku,decide_eq_false b];rfl
 refine ah ?_;apply cF<;>intro e
 . refine ah ?_;rw[ku,jd J];simp
 obtain⟨r,a⟩:∃r,n.ar[l.run.toNat]? =I r:=⟨n.ar[l.run.toNat]'J,by simp⟩;refine ah ?_;apply cF<;>intro c
 . refine ah ?_;rw[ku,a,decide_eq_false c];simp
 refine ah ?_;apply cF<;>intro d
 . refine ah ?_;rw[ku,a,decide_eq_false d];simp
 refine bN a @aV.row.eq_1 ?_;rw[ku,a,be b,be c,be d];rfl
def lm(n:ak)(z:Int):Int:=match n.aB[z.toNat]? with|some s=>s.hz|none=>0
def dS(n:ak)(z:Int):Int:=match n.aB[z.toNat]? with|some s=>s.change|none=>0
def oX(n:ak)(z:Int):Int:=match n.ey[z.toNat]? with|some s=>s.fA|none=>0
def gR(n:ak)(i:Nat):List aZ:=match n.ar[i]? with|some r=>r.aO|none=>[]
def lX(n:ak)(a:List aZ):Nat:=a.foldl (λz c=>z|||g0 (lm n c.stop)) 0
def aeB(n:ak)(b:List aZ):lX n b<18446744073709551616:=by
 unfold lX;have:∀(b:List aZ)(a:Nat),a<18446744073709551616->b.foldl (λz c=>z|||g0 (lm n c.stop)) a<18446744073709551616:=λb=>by
  induction b with
  |nil=>exactλa h=>h
  |cons c b d=>exactλa h=>d _ (vK _ _ h (A1 _))
 exact this b 0 J
def aeD(n:ak)(a:List aZ)(c:aZ):lX n (a++[c])=lX n a|||g0 (lm n c.stop):=by simp[lX,List.foldl_append]
def mr(n:ak)(l:a7):List aZ:=((gR n l.run.toNat).drop l.cM.toNat).take ((l.ct+1).toNat -l.cM.toNat)
theorem zS(n:ak)(l:a7):ku n l=U↔0<=l.run/\∃r,n.ar[l.run.toNat]? =I r/\0<=l.cM/\l.cM<l.ct/\l.ct<r.aO.length:=by
 unfold ku;cases n.ar[l.run.toNat]? with
 |none=>simp
 |some r=>simp
def aeG(n:ak)(l:a7)(q:ku n l=U)(u:∀r∈n.ar,r.aO.length<=32/\∀c∈r.aO,0<=c.stop/\c.stop<n.aB.length):
 bq aH 39 [.agg n.row,.agg l.row] (λv=>v=.int .u64 (lX n (mr n l):Nat)):=by
 obtain⟨y,r,e,m,z,A⟩:=(zS n l).1 q;obtain⟨B,bP⟩:=u r (bI e);have d:mr n l=(r.aO.drop l.cM.toNat).take ((l.ct+1).toNat -l.cM.toNat):=by simp only[mr,gR,e]
 have j:∀c∈mr n l,0<=c.stop/\c.stop<n.aB.length:=λc b=>bP c (by
  rw[d] at b;exact List.mem_of_mem_drop (List.mem_of_mem_take b));have g:∀M,eQ 5 (.slice (r.aO.map aZ.row) r.tag) (I (aa l.cM)) (I (aa (l.ct+1))) ag M=I (.slice ((mr n l).map aZ.row) (kp r.tag (l.ct+1).toNat (r.aO.map aZ.row).length (r.aO.map aZ.row).length ad)):=λM=>by
  rw[Le 5 (r.aO.map aZ.row) r.tag .i64 .i64 l.cM (l.ct+1) M m J (by rw[cz];omega) (pS (f:=aZ.row) (λ_=>rfl) _),d,List.map_take,List.map_drop]
 generalize kp r.tag (l.ct+1).toNat (r.aO.map aZ.row).length (r.aO.map aZ.row).length ad=k at g;have o:(mr n l).length<=32:=by rw[d,fh,kJ];omega
 generalize mr n l=a at j g o;refine bB GA (es @ak.row.eq_1 @a7.row.eq_1 e @aV.row.eq_1 g ?_);refine c6 a (λi h M=>h=[.ptr 0 0,.int .u64 (lX n (a.take i):Nat),.slice (a.map aZ.row) k,aa a.length,aa i]/\M=[.box n.row,.box l.row]) ⟨rfl,rfl⟩ ?_ ?_;rotate_left
 . rintro h M ⟨rfl,rfl⟩;rw[f_];exact jy @bV
 rintro i c h M b t p ⟨rfl,rfl⟩;obtain⟨C,D⟩:=j c (bI b);obtain⟨s,ae⟩:∃s,n.aB[c.stop.toNat]? =I s:=⟨n.aB[c.stop.toNat]'J,by simp⟩;have x:lm n c.stop=s.hz:=by simp only[lm,ae]
 have w:lX n (a.take (i+1))=lX n (a.take i)|||g0 s.hz:=by rw[gM,b];simp[aeD,x]
 refine mI p b @aZ.row.eq_1 @ak.row.eq_1 @a7.row.eq_1 ae @Stop.row.eq_1 ?_;refine bG (QT _ _ (aeB n (a.take i))) (ah ?_);rw[<-w];exact cN t rfl ⟨rfl,rfl⟩
def qC{α:Type}{l:List α}{i:Nat}{t:α}(h:l[i]? =I t):l.drop i=t::l.drop (i+1):=by obtain⟨a,rfl⟩:=az.1 h;exact mM a
def qk(n:ak)(l:a7):Int:=IntKind.i64.wrap (lX n (mr n l):Nat)
def oS(n:ak)(l:a7):Int:=IntKind.i64.wrap (g0 (oX n (match n.ar[l.run.toNat]? with|some r=>r.gJ|none=>0)):Nat)
def sI(n:ak)(l:a7):aI:=⟨l.aR,l.aQ,qk n l,oS n l⟩
def Bl(n:ak)(l:a7)(r:aI):aI:=⟨r.aR,l.aQ,lN .i64 r.er (qk n l),lN .i64 r.dn (oS n l)⟩
def ii(n:ak)(out:List aI)(l:a7):List aI:=
 if l.aT=U then(match out[out.length -1]? with|some r=>out.set (out.length -1) (Bl n l r)|none=>out) else out++[sI n l]
def kC(n:ak):Bool->List a7->List aI->Int×List aI
 |_,[],out=>(0,out)
 |b,l::a,out=>if l.bl=U/\ku n l=ad then(9,[]) else if l.aT=U/\(l.bl=ad∨b=ad) then(19,[])
  else kC n l.bl a (if l.bl=U then ii n out l else out)
def fo(n:ak)(a:List a7):Int×List aI:=kC n ad a []
def D5:List aI->cg
 |[]=>.nil
 |_::_=>.bF
def tm(L:Mem)(x:V)(out:List aI):Prop:=(x=.slice [] .nil/\out=[])∨∃b ver,x=.an (3+b) ver 0 out.length/\L[b]? =I (.aj 4 (out.map aI.row) ver 0)/\0<out.length
def xo(L a:Mem):Prop:=∀(i:Nat)(B:List V),L[i]? =I (au.box B)->a[i]? =I (au.box B)
def wn{L:Mem}{x:V}{out:List aI}(h:tm L x out)(K:Mem):tm (L++K) x out:=by
 rcases h with h|⟨b,ver,a,c,d⟩
 . exact .inl h
 . exact .inr ⟨b,ver,a,a0 c K,d⟩
def Ya(L K:Mem):xo L (L++K):=λi B h=>a0 h K
def I2{L:Mem}{b:Nat}{f ver d:Nat}{e:List (List V)}(h:L[b]? =I (.aj f e ver d))(B:au):xo L (L.set b B):=λi C a=>by
 by_cases c:b=i
 . subst c;rw[h] at a;cases a
 . rw[bo c];exact a
def Pk{L:Mem}{x:V}{out:List aI}(h:tm L x out)(A B C:au)(r:aI)(l:out.length<=1000):
 ∃b ver e,cw ad 4 32 x (.slice [[aa r.aR,aa r.aQ,aa r.er,aa r.dn]] .full) (A::B::C::L)=I (.an (3+b) ver 0 (out.length+1),A::B::C::e)/\e[b]? =I (.aj 4 ((out++[r]).map aI.row) ver 0)/\xo L e:=by
 have i:∀k(a b c:au)(K:Mem),(a::b::c::K)[3+k]? =K[k]? :=λk a b c K=>by rw[show 3+k=k+1+1+1 by omega];rfl
 have j:∀k(a b c d:au)(K:Mem),(a::b::c::K).set (3+k) d=a::b::c::K.set k d:=λk a b c d K=>by rw[show 3+k=k+1+1+1 by omega];rfl
 rcases h with⟨rfl,rfl⟩|⟨b,ver,rfl,f,_⟩
 . refine⟨L.length,0,L++[.aj 4 [[aa r.aR,aa r.aQ,aa r.er,aa r.dn]] 0 0],?_,cE L _,Ya _ _⟩;have m:(A::B::C::L).length=3+L.length:=by simp;omega
   simp only[cw,dg,eU,dP,cc,eu,dm,beq_self_eq_true,bi,Nat.reduceMul,Nat.reducePow,Nat.reduceLeDiff,decide_true,Bool.true_or,cR,eH,fG];rw[show L.length+1+1+1=3+L.length by omega]
 . refine⟨b,ver+1,L.set b (.aj 4 (out.map aI.row++[r.row]) (ver+1) 0),?_,?_,I2 f _⟩
   . have g:(A::B::C::L)[3+b]? =I (.aj 4 (out.map aI.row) ver 0):=by rw[i];exact f
     have:=md (bytes:=32) (n:=out.length) (r:=r.row) g (by simp) rfl J;rw[j] at this;exact this
   . rw[bY (az.1 f).1];simp
def CE(n:ak)(p:au)(x:V)(L:Mem)(out:List aI)(l:a7)(F:tm L x out)(A:ku n l=U)(ae:l.aT=U->0<out.length)(ab:out.length<=1000)
 (E:∀r∈n.ar,(r.aO.length<=32/\∀c∈r.aO,0<=c.stop/\c.stop<n.aB.length)/\0<=r.gJ/\r.gJ<n.ey.length):
 bx aH 38 [.agg l.row,.ptr 0 0,.ptr 2 0] (.box n.row::p::.box [x]::L) (λv O=>v=.tuple []/\∃N q,O=.box n.row::p::.box [N]::q/\tm q N (ii n out l)/\xo L q):=by
 have H:=aeG n l A λr m=>(E r m).1;obtain⟨ao,r,m,ap,w,aq⟩:=(zS n l).1 A;obtain⟨_,e,ay⟩:=E r (bI m);obtain⟨y,G⟩:∃y,n.ey[r.gJ.toNat]? =I y:=⟨n.ey[r.gJ.toNat]'J,by simp⟩;have W:oS n l=IntKind.i64.wrap (g0 y.fA:Nat):=by simp only[oS,m,oX,G]
 simp only[ak.row,a7.row] at H;have S:∀k(a b c:au)(K:Mem),(a::b::c::K)[3+k]? =K[k]? :=λk a b c K=>by rw[show 3+k=k+1+1+1 by omega];rfl
 have T:∀k(a b c d:au)(K:Mem),(a::b::c::K).set (3+k) d=a::b::c::K.set k d:=λk a b c d K=>by rw[show 3+k=k+1+1+1 by omega];rfl
 refine dX Gr ?_;have aw:(.box n.row::p::.box [x]::L:Mem).length=3+L.length:=by simp;omega
 have h:∀(K:Mem)(B:au),(K++[B])[K.length]? =I B:=λK B=>by simp
 refine b6 h @ak.row.eq_1 @a7.row.eq_1 ?_;refine bG H (es h m @aV.row.eq_1 G @ec.row.eq_1 ?_);refine bG (QS y.fA) (aL h ?_);have al:IntKind.i64.wrap (lX n (mr n l):Nat)=qk n l:=rfl;rw[al,<-W];apply cU<;>intro g
 . obtain⟨b,ver,q,M,am,an⟩:=Pk (wn F [.box l.row]) (.box n.row) p (.box [x]) (sI n l) ab;simp only[sI,a7.row,ak.row] at M;refine bN h M ?_;refine⟨_,_,rfl,?_,λi B j=>an i B (a0 j _)⟩;have u:ii n out l=out++[sI n l]:=by rw[ii,ax (by rw[g];simp)]
   rw[u];exact .inr ⟨b,ver,by simp,am,by simp⟩
 have C:=ae g;rcases F with⟨_,rfl⟩|⟨b,ver,rfl,w,_⟩
 . cases C
 obtain⟨e,D⟩:∃e,out[out.length -1]? =I e:=⟨out[out.length -1],by simp⟩;have u:ii n out l=out.set (out.length -1) (Bl n l e):=by rw[ii,aF g,D]
 rw[u];have t:∀(i:Nat)(B:List V),L[i]? =I (au.box B)->(L++[au.box l.row])[i]? =I (au.box B):=λi B j=>a0 j _;have f:=a0 w [.box l.row];have s:=h L (.box l.row);simp only[a7.row] at f s t;generalize av:L++[au.box [.bool l.bl,aa l.run,aa l.cM,aa l.ct,aa l.src,aa l.dst,aa l.aR,aa l.aQ,.bool l.aT]]=K at f s t;have Q:=(az.1 f).1;have z:∀X,(K.set b X)[b]? =I X:=λX=>by rw[bY Q]
 have P:∀X Y,(K.set b X).set b Y=K.set b Y:=λX Y=>h3 ..;have ah:(out.map aI.row)[out.length -1]? =I [aa e.aR,aa e.aQ,aa e.er,aa e.dn]:=by rw[dK,D];rfl
 have af:out.length -1<(out.map aI.row).length:=by rw[cz];omega
 have ai:∀X,((out.map aI.row).set (out.length -1) X)[out.length -1]? =I X:=λX=>by rw[bY af]
 have aj:∀X Y,((out.map aI.row).set (out.length -1) X).set (out.length -1) Y=(out.map aI.row).set (out.length -1) Y:=λX Y=>h3 ..;have R:decide (out.length -1<out.length)=U:=bR;have Z:∀i v r o,kx (.df i v r o)=I (.df i v r o):=λ_ _ _ _=>rfl;refine od Z S T f s z P ah ai aj R ?_;refine⟨_,_,rfl,.inr ⟨b,ver,by rw[cW],?_,by rw[cW];exact C⟩,λi B j=>?_⟩
 . rw[z,List.map_set];rfl
 . exact I2 f _ i B (t i B j)
def Pm(n:ak)(f:List a7)(c:cg)(Z:n.wf)(ok:di n)(af:f.length<=1000):
 bq aH 16 [.agg n.row,.agg [.slice (f.map a7.row) c]] (λv=>v=.tuple [.slice ((fo n f).2.map aI.row) (D5 (fo n f).2),aa (fo n f).1]):=by
 have y:=t7 n Z ok;have M:∀r∈n.ar,(r.aO.length<=32/\∀c∈r.aO,0<=c.stop/\c.stop<n.aB.length)/\0<=r.gJ/\r.gJ<n.ey.length:=λr m=>by obtain⟨i,q⟩:=eb m;have h:=ok.ok.ar.2 i r q;refine⟨⟨h.2.2.2.2.2.1.2.1,λc y=>?_⟩,h.2.2.2.2.1⟩;obtain⟨k,s⟩:=eb y;exact(h.2.2.2.2.2.1.2.2 k c s).1
 simp only[ak.row] at y;refine bB Gs (aL @ak.row.eq_1 ?_);refine bG y (ah ?_);refine c6 f (λi F N=>∃u out x L,F=[.ptr 0 0,.ptr 2 0,.fn 38 [.ptr 0 0,.ptr 2 0],.bool u,.slice (f.map a7.row) c,aa f.length,aa i]/\
  N=.box n.row::.box [.slice (f.map a7.row) c]::.box [x]::L/\tm L x out/\(u=U->0<out.length)/\out.length<=i/\kC n u (f.drop i) out=fo n f)
  ⟨ad,[],_,[],rfl,rfl,.inl ⟨rfl,rfl⟩,(by intro h;cases h),(by simp),rfl⟩ ?_ ?_;rotate_left
 . rintro F N ⟨u,out,x,L,rfl,rfl,t,m,ab,e⟩;rw[List.drop_length] at e;refine aL @bV ?_;have Y:fo n f=(0,out):=e.symm;rw[Y];rcases t with⟨rfl,rfl⟩|⟨b,ver,rfl,Q,R⟩
   . refine fE (aX 53) ?_;rfl
   . have W:∀k(a b c:au)(K:Mem),(a::b::c::K)[3+k]? =K[k]? :=λk a b c K=>by rw[show 3+k=k+1+1+1 by omega];rfl
     have P:decide (3+b<0)=ad:=decide_eq_false (c9 _);have ae:(out.map aI.row).take out.length=out.map aI.row:=eS (by simp);have T:D5 out=.bF:=by cases out with
      |nil=>cases R
      |cons _ _=>rfl
     simp-implicitDefEqProofs (disch:=omega) only[go_sem,↓aX 53,W,Q,P,ae,T]
 rintro i l F N H q V ⟨u,out,x,L,rfl,rfl,t,m,ab,e⟩;have ai:l.row=[.bool l.bl,aa l.run,aa l.cM,aa l.ct,aa l.src,aa l.dst,aa l.aR,aa l.aQ,.bool l.aT]:=rfl;rw[qC H] at e;have D:=TN n l;simp only[ak.row,a7.row] at D;have g:∀(K:Mem)(B:au),(K++[B])[K.length]? =I B:=λK B=>by simp
 have S:∀(K:Mem)(B X:au),(K++[B]).set K.length X=K++[X]:=λK B X=>by simp
 refine he V H @a7.row.eq_1 @ak.row.eq_1 g S ?_;rw[kC] at e;apply cU<;>intro d
 . rw[ax (by rw[d];simp)] at e;refine bN g d ?_;apply dt<;>intro j
   . rw[aF ⟨j,.inl d⟩] at e;refine bN g d ?_;rw[<-e];rfl
   . rw[ax (by rw[j];simp),ax (by rw[d];simp),d] at e;refine b6 @ak.row.eq_1 g d ?_;refine bE q ⟨ad,out,x,L++[.box l.row],rfl,?_,wn t _,(by intro h;cases h),J,e⟩;simp[a7.row,d]
 refine bN g d ?_;simp only[d] at D;refine bG D (ah ?_);apply cU<;>intro w
 . rw[aF ⟨d,w⟩] at e;refine ah ?_;rw[<-e];rfl
 rw[ax (by rw[w];simp)] at e;refine bN g d ?_;apply dt<;>intro j
 . refine bN g d ?_;apply cU<;>intro o
   . rw[aF ⟨j,.inr o⟩] at e;refine ah ?_;rw[<-e];rfl
   have A:kC n U (f.drop (i+1)) (ii n out l)=fo n f:=by rw[ax (by rw[d,o];simp),aF d,d] at e;exact e
   have p:=CE n (.box [.slice (f.map a7.row) c]) x (L++[.box l.row]) out l (wn t _) w (λ_=>m o) J M;simp only[ak.row,a7.row,d] at p;refine bN g d ?_;refine ch p ?_;rintro v O ⟨rfl,G,z,rfl,E,s⟩;have C:=s L.length _ (g L _);refine b6 @ak.row.eq_1 C d ?_;refine bE q ⟨U,ii n out l,G,z,rfl,rfl,E,λ_=>?_,?_,A⟩
   . unfold ii;rw[aF j];split
     . rw[cW];exact m o
     . exact m o
   . unfold ii;rw[aF j];split
     . rw[cW];omega
     . omega
 . have A:kC n U (f.drop (i+1)) (ii n out l)=fo n f:=by
    rw[ax (by rw[j];simp),aF d,d] at e;exact e
   have p:=CE n (.box [.slice (f.map a7.row) c]) x (L++[.box l.row]) out l (wn t _) w (λh=>by rw[j] at h;cases h) J M;simp only[ak.row,a7.row,d] at p;refine bN g d ?_;refine ch p ?_;rintro v O ⟨rfl,G,z,rfl,E,s⟩;have C:=s L.length _ (g L _);refine b6 @ak.row.eq_1 C d ?_;refine bE q ⟨U,ii n out l,G,z,rfl,rfl,E,λ_=>?_,?_,A⟩
   . unfold ii;rw[ax (by rw[j];simp)];simp
   . unfold ii;rw[ax (by rw[j];simp)];rw[b0];simp;omega
def T6(a b d:Int)(c:dd a)(e:dd b)(f:dd d)(n:0<=d):bq aH 151 [aa a,aa b,aa d] (λv=>v=.bool (decide (b -a<=d))):=by
 obtain⟨g,i⟩:=c;obtain⟨j,k⟩:=e;obtain⟨l,m⟩:=f;refine bB FJ ?_;simp-implicitDefEqProofs (maxSteps:=3000000) (disch:=omega) only[go_sem,xL]
 repeat' (refine uB (λh=>?_) (λh=>?_))
 all_goals
  rw[Bool.eq_iff_iff];simp only[cZ,BZ,true_iff];omega
def r3(f:aN)(s:Int):Int:=if 0<f.kf/\f.kf<s then f.kf else s
def TZ(f:aN)(s:Int):bq aH 44 [.agg f.row,aa s] (λv=>v=aa (r3 f s)):=by
 refine bB Fx (aL @aN.row.eq_1 ?_);apply aW<;>intro h
 . refine ah ?_;apply aW<;>intro a
   . refine aL @r3.eq_1 ?_;rw[aF ⟨h,a⟩]
   . refine aL @r3.eq_1 ?_;rw[ax (λe=>a e.2)]
 . refine aL @r3.eq_1 ?_;rw[ax (λe=>h e.1)]
def Ce(n:Int):dd (IntKind.i64.wrap n):=by rw[kY,dd];split<;>omega
def part(l:List aI)(i k:Nat):List aI:=(l.drop i).take (k+1 -i)
def J7{l:List aI}{i k:Nat}(h:k<l.length):(part l i k).length=k+1 -i:=by simp[part];omega
def J8{l:List aI}{i k:Nat}{r:aI}(h:r∈part l i k):r∈l:=List.mem_of_mem_drop (List.mem_of_mem_take h)
def aah(l:List aI)(i k:Nat):((l.map aI.row).drop i).take (k+1 -i)=(part l i k).map aI.row:=by rw[part,List.map_take,List.map_drop]
def gy(f:aN)(p:cv)(l:List aI)(i:Nat):Int:=
 match l[i -1]?,l[i]? with
 |some a,I b=>if 0<i/\b.aR -a.aQ<=f.e4 then max 0 (p.gf -f.hG) else p.gf
 |_,_=>p.gf
def BY{f:aN}{p:cv}{l:List aI}{i:Nat}(h:0<=p.gf/\p.gf<=1000000)(a:0<=f.hG):0<=gy f p l i/\gy f p l i<=1000000:=by
 unfold gy;split
 . split<;>omega
 . omega
def T4(f:aN)(p:cv)(l:List aI)(c:cg)(i:Nat)(n:f.wf)(m:f.Ok)(x:0<=p.gf/\p.gf<=1000000)(k:∀r∈l,r.wf)(t:i<l.length)(u:l.length<=maxLen):
 bq aH 87 [.agg f.row,.agg p.row,.slice (l.map aI.row) c,aa i] (λv=>v=aa (gy f p l i)):=by
 have w:maxLen=9223372036854775807:=by rfl
 obtain⟨o,q⟩:=m.hG;refine bB FF ?_;obtain⟨b,g⟩:∃b,l[i]? =I b:=⟨l[i],by simp⟩;obtain⟨a,d⟩:∃a,l[i -1]? =I a:=⟨l[i -1],by simp⟩;have h:gy f p l i=if 0<i/\b.aR -a.aQ<=f.e4 then max 0 (p.gf -f.hG) else p.gf:=by simp only[gy,d,g]
 refine bN @aN.row.eq_1 @cv.row.eq_1 ?_;apply cF<;>intro s
 . refine aL h ?_;rw[ax (λe=>J)]
 refine b6 d g @aI.row.eq_1 ?_;refine bG (T6 _ _ _ (k a (bI d)).2.1 (k b (bI g)).1 n.2.2.2.1 m.e4.1) (ah ?_);apply aW<;>intro j
 . refine aL h ?_;rw[aF ⟨J,j⟩]
 . refine aL h ?_;rw[ax (λe=>j e.2)]
structure bK where
 o8:Int
 first:Int
 last:Int
 gf:Int
 deriving DecidableEq
def bK.row(t:bK):List V:=[aa t.o8,aa t.first,aa t.last,aa t.gf]
def bK.wf(t:bK):Prop:=dd t.o8/\dd t.first/\dd t.last/\dd t.gf
def fp(l:List bK):Int:=(l.map bK.gf).sum
def nu(f:aN)(n:Nat):Int:=if(g4 f).2≠0 then 20 else if 8<n then 33 else 0
def T5(f:aN)(l:List aI)(c:cg)(b:f.wf):bq aH 42 [.agg f.row,.slice (l.map aI.row) c] (λv=>v=aa (nu f l.length)):=by
 refine bB FH (aL @aN.row.eq_1 ?_);refine bG (A8 f b) (aL @ig.eq_1 ?_);apply cF<;>intro a
 . refine aL @nu.eq_1 ?_;rw[aF a]
 refine ah ?_;apply aW<;>intro d
 . refine aL @nu.eq_1 ?_;rw[ax (by simp[a]),aF J]
 . refine aL @nu.eq_1 ?_;rw[ax (by simp[a]),ax J]
def yS(l:List bK):Prop:=∀t∈l,0<=t.gf/\t.gf<=1000000
def yS.take{l:List bK}(h:yS l)(i:Nat):yS (l.take i):=λt a=>h t (List.mem_of_mem_take a)
def adT{f:aN}{n:Nat}:nu f n=0↔(g4 f).2=0/\n<=8:=by
 unfold nu;split
 . rename_i h;constructor
   . intro e;simp at e
   . intro e;exact aJ e.1 h
 . rename_i h;split
   . constructor
     . intro e;simp at e
     . intro e;omega
   . simp only[ne_eq,Decidable.not_not] at h;exact⟨λ_=>⟨h,J⟩,λ_=>rfl⟩
def q6(f:aN)(l:List aI)(t:bK)(next:Int):Int:=
 if t.o8<0∨(f.bU.length:Int)<=t.o8 then 9
 else if t.first≠next∨t.last<t.first∨(l.length:Int)<=t.last then 8
 else match f.bU[t.o8.toNat]? with
  |none=>9
  |some p=>if iS p (part l t.first.toNat t.last.toNat)=ad then 34 else if t.gf≠gy f p l t.first.toNat then 1 else 0
def acK(l:List aI)(i k:Nat)(c:cg)(M:Mem)(d:i<=k)(e:k<l.length):
 eQ 4 (.slice (l.map aI.row) c) (I (aa i)) (I (aa ((k:Int)+1))) ag M=I (.slice ((part l i k).map aI.row) (kp c (k+1) l.length l.length ad)):=by
 rw[Le 4 _ c _ _ _ _ M J J (by simp;omega) (pS (f:=aI.row) (λr=>rfl) l),cz];have a:((i:Int)).toNat=i:=J;have b:((k:Int)+1).toNat=k+1:=J;rw[a,b,aah]
def aaa{f:aN}{l:List aI}{t:bK}{next:Int}(a:f.Ok)(h:q6 f l t next=0):
 t.first=next/\t.first<=t.last/\t.last<l.length/\0<=t.gf/\t.gf<=1000000:=by
 unfold q6 at h;split at h
 . simp at h
 rename_i d;split at h
 . simp at h
 rename_i e;split at h
 . simp at h
 rename_i p c;split at h
 . simp at h
 split at h
 . simp at h
 rename_i b;simp only[ne_eq,Decidable.not_not] at b;have:=BY (f:=f) (l:=l) (i:=t.first.toNat) (a.p7 p (bI c)).1 a.hG.1;omega
def zK{α:Type}{l:List α}{i:Nat}{t:α}(h:l[i]? =I t):l.drop i=t::l.drop (i+1):=by obtain⟨a,b⟩:=az.1 h;rw[mM a,b]
def n3(o:Option (List bK)):Bool:=o.isSome
def o9(o:Option (List bK)):Int:=match o with|some d=>fp d|none=>0
def re(o:Option (List bK)):Int:=match o with|some d=>(d.length:Int)|none=>0
def nk(o:Option (List bK)):bK:=match o with|some (t::_)=>t|_=>⟨0,0,0,0⟩
def i7(o:Option (List bK)):List V:=[.bool (n3 o),aa (o9 o),aa (re o),aa (nk o).o8,aa (nk o).first,aa (nk o).last,aa (nk o).gf]
def dx(T:Nat->Option (List bK)):List V:=
 i7 (T 0)++i7 (T 1)++i7 (T 2)++i7 (T 3)++i7 (T 4)++i7 (T 5)++i7 (T 6)++i7 (T 7)++i7 (T 8)
def hL(T:Nat->Option (List bK))(i:Nat)(o:Option (List bK)):Nat->Option (List bK):=λj=>if j=i then o else T j
theorem B2(T:Nat->Option (List bK))(i:Nat)(o:Option (List bK)):hL T i o i=o:=aF rfl
def ut(T:Nat->Option (List bK)){i j:Nat}(o:Option (List bK))(h:j≠i):hL T i o j=T j:=ax h
theorem adK(T:Nat->Option (List bK))(i:Nat)(a b:Option (List bK)):hL (hL T i a) i b=hL T i b:=by funext j;unfold hL;split<;>rfl
theorem oY{p:Nat->Prop}(a:p 0)(b:p 1)(c:p 2)(d:p 3)(e:p 4)(f:p 5)(g:p 6)(i:p 7)(k:p 8){j:Nat}(h:j<9):p j:=by
 match j,h with
 |0,_=>exact a
 |1,_=>exact b
 |2,_=>exact c
 |3,_=>exact d
 |4,_=>exact e
 |5,_=>exact f
 |6,_=>exact g
 |7,_=>exact i
 |8,_=>exact k
theorem pL(T:Nat->Option (List bK)):(dx T).length=63:=rfl
def Ul(T:Nat->Option (List bK)){j:Nat}(h:j<9):(dx T)[j*7]? =I (.bool (n3 (T j))):=
 oY (p:=λj=>(dx T)[j*7]? =I (.bool (n3 (T j)))) rfl rfl rfl rfl rfl rfl rfl rfl rfl h
theorem Um(T:Nat->Option (List bK)):(dx T)[0]? =I (.bool (n3 (T 0))):=rfl
theorem Un(T:Nat->Option (List bK)):(dx T)[1]? =I (aa (o9 (T 0))):=rfl
def Uo(T:Nat->Option (List bK)){j:Nat}(h:j<9):(dx T)[j*7+1]? =I (aa (o9 (T j))):=
 oY (p:=λj=>(dx T)[j*7+1]? =I (aa (o9 (T j)))) rfl rfl rfl rfl rfl rfl rfl rfl rfl h
def Up(T:Nat->Option (List bK)){j:Nat}(h:j<9):(dx T)[j*7+2]? =I (aa (re (T j))):=
 oY (p:=λj=>(dx T)[j*7+2]? =I (aa (re (T j)))) rfl rfl rfl rfl rfl rfl rfl rfl rfl h
def Uq(T:Nat->Option (List bK)){j:Nat}(h:j<9):(dx T)[j*7+3+2]? =I (aa (nk (T j)).last):=
 oY (p:=λj=>(dx T)[j*7+3+2]? =I (aa (nk (T j)).last)) rfl rfl rfl rfl rfl rfl rfl rfl rfl h
def Uw(T:Nat->Option (List bK)){j:Nat}(h:j<9):((dx T).drop (j*7)).take 7=i7 (T j):=
 oY (p:=λj=>((dx T).drop (j*7)).take 7=i7 (T j)) rfl rfl rfl rfl rfl rfl rfl rfl rfl h
def Ux(T:Nat->Option (List bK)){j:Nat}(h:j<9):((dx T).drop (j*7+3)).take 4=(nk (T j)).row:=
 oY (p:=λj=>((dx T).drop (j*7+3)).take 4=(nk (T j)).row) rfl rfl rfl rfl rfl rfl rfl rfl rfl h
theorem E3(T:Nat->Option (List bK)):(dx T).take 63=dx T:=rfl
theorem E4(T:Nat->Option (List bK)):ko (dx T)=U:=rfl
def Uu(T:Nat->Option (List bK))(o:Option (List bK)){j:Nat}(h:j<9):e6 (dx T) (j*7) (i7 o)=dx (hL T j o):=by refine oY (p:=λj=>e6 (dx T) (j*7) (i7 o)=dx (hL T j o)) ?_ ?_ ?_ ?_ ?_ ?_ ?_ ?_ ?_ h<;>simp[dx,e6,hL,i7]
def Uv{j:Nat}(h:j<9):e6 (dx (λ_=>ag)) (j*7) [.bool U]=dx (hL (λ_=>ag) j (I [])):=by refine oY (p:=λj=>e6 (dx (λ_=>ag)) (j*7) [.bool U]=dx (hL (λ_=>ag) j (I []))) ?_ ?_ ?_ ?_ ?_ ?_ ?_ ?_ ?_ h<;>simp[dx,e6,hL,i7,n3,o9,re,nk,fp]
theorem xc(T:Nat->Option (List bK))(n:Nat):cd n (dx T)=U:=rfl
def B3(T:Nat->Option (List bK))(i:Nat):hL T i (T i)=T:=by funext j;unfold hL;split<;>simp_all
def E5(T a:Nat->Option (List bK)):e6 (dx T) 0 (dx a)=dx a:=by simp[dx,i7,e6]
def E6:[V.bool ad,v0,v0,v0,v0,v0,v0,.bool ad,v0,v0,v0,v0,v0,v0,.bool ad,v0,v0,v0,v0,v0,v0,.bool ad,v0,v0,v0,v0,v0,v0,.bool ad,v0,v0,v0,v0,v0,v0,.bool ad,v0,v0,v0,v0,v0,v0,.bool ad,v0,v0,v0,v0,v0,v0,.bool ad,v0,v0,v0,v0,v0,v0,.bool ad,v0,v0,v0,v0,v0,v0]=dx (λ_=>ag):=by simp[dx,i7,n3,o9,re,nk]
def Ur(T:Nat->Option (List bK))(M:Mem)(n:Nat):cY M n 20 (.agg (dx T))=I (.agg (dx T)):=by simp[cY,eO,dx,i7,V.under]
attribute [irreducible] dx
def qx(o:Option (List bK))(s n:Int):Bool:=!n3 o||(decide (s<o9 o)||(decide (s=o9 o)&&decide (n<re o)))
def T3(o:Option (List bK))(s n:Int):bq aH 88 [.agg (i7 o),aa s,aa n] (λv=>v=.bool (qx o s n)):=by
 refine bB FD (aL @i7.eq_1 ?_);apply cU<;>intro a
 . refine bN @qx.eq_1 a ?_;rfl
 refine ah ?_;apply aW<;>intro b
 . refine b6 @qx.eq_1 a b ?_;rfl
 refine ah ?_;apply aW<;>intro c
 . refine b6 @qx.eq_1 a c ?_;simp
 . refine d0 @qx.eq_1 a b c ?_;simp
def hF(f:aN)(l:List aI)(i k p:Nat)(R:Nat->Option (List bK)):Option (List bK):=
 match f.bU[p]? with
 |none=>ag
 |some q=>if iS q (part l i k)=U then(R (k+1)).map (λd=>⟨p,i,k,gy f q l i⟩::d) else ag
def lg(a c:Option (List bK)):Option (List bK):=match c with|none=>a|some d=>if qx a (fp d) d.length=U then I d else a
def sW(t:bK)(d:List bK):fp (t::d)=t.gf+fp d:=by simp[fp]
def Cu(d:List bK):Prop:=0<=fp d/\fp d<=1000000*d.length/\d.length<=8
def T0(f:aN)(l:List aI)(c:cg)(T:Nat->Option (List bK))(i k p:Nat)(q:cv)(d:List bK)(o:f.wf)(a:f.Ok)(s:∀r∈l,r.wf)(C:l.length<=8)
 (x:i<=k)(y:k<l.length)(al:f.bU[p]? =I q)(n:T (k+1)=I d)(w:Cu d):
 bx aH 86 [aa i,aa k,aa p,.ptr 0 0,.ptr 1 0,.ptr 3 0] [.box f.row,.box [.slice (l.map aI.row) c],.box (dx λ_=>ag),.box (dx T)]
  (λv M=>v=.tuple []/\M=[.box f.row,.box [.slice (l.map aI.row) c],.box (dx λ_=>ag),.box (dx (hL T i (lg (T i) (hF f l i k p T))))]):=by
 have D:maxLen=9223372036854775807:=by rfl
 have g:=bI al;obtain⟨z,A,B⟩:=w;refine bB FA ?_;simp-implicitDefEqProofs (disch:=omega) only[go_sem,aN.row,al,cv.row,acK l i k _ _ x y];refine bG (Kp q (part l i k) _ (o.1 q g) (λr u=>s r (J8 u)) (by rw[J7 J];omega)) (ah ?_);apply cU<;>intro h
 . have e:hF f l i k p T=ag:=by simp only[hF,al,h];rfl
   exact rz e @lg.eq_1 @xc @B3
 have e:hF f l i k p T=I (⟨p,i,k,gy f q l i⟩::d):=by simp only[hF,al,h,n,if_true];rfl
 refine bN al @cv.row.eq_1 ?_;refine bG (T4 f q l c i o a (a.p7 q g).1 s J J) ?_;have u:=BY (f:=f) (l:=l) (i:=i) (a.p7 q g).1 a.hG.1;refine mI @Uo @Up @Uw @pL n @o9.eq_1 @re.eq_1 ?_;refine bG (T3 (T i) _ _) (ah ?_);apply dt<;>intro m
 . have b:lg (T i) (hF f l i k p T)=I (⟨p,i,k,gy f q l i⟩::d):=by
    rw[e];simp only[lg,sW,cc,Int.natCast_succ,m,if_true]
   have t:=Uu T (I (⟨p,i,k,gy f q l i⟩::d)) (j:=i) J;simp only[i7,n3,o9,re,nk,e6,sW,cc,Option.isSome,Int.natCast_succ] at t;exact rz t @pL b @xc
 . have b:lg (T i) (hF f l i k p T)=T i:=by
    rw[e];simp only[lg,sW,cc,Int.natCast_succ,m];simp
   exact pj b @xc @B3
def jm(f:aN)(l:List aI)(i k:Nat)(R:Nat->Option (List bK))(a:Option (List bK)):Nat->Option (List bK)
 |0=>a
 |p+1=>lg (jm f l i k R a p) (hF f l i k p R)
def it(f:aN)(l:List aI)(i:Nat)(R:Nat->Option (List bK)):Nat->Option (List bK)
 |0=>ag
 |j+1=>jm f l i (i+j) R (it f l i R j) f.bU.length
def eG(f:aN)(l:List aI):Nat->Nat->Option (List bK)
 |0=>hL (λ_=>ag) l.length (I [])
 |j+1=>hL (eG f l j) (l.length -(j+1)) (it f l (l.length -(j+1)) (eG f l j) (j+1))
def hS(f:aN)(l:List aI):Nat->Option (List bK):=eG f l l.length
theorem LB(f:aN)(l:List aI):∀(j i:Nat),j<=l.length->i+j<l.length->eG f l j i=ag
 |0,i,_,h=>by rw[eG,ut _ _ J]
 |j+1,i,a,h=>by rw[eG,ut _ _ J];exact LB f l j i J J
def D4(f:aN)(l:List aI)(i k p:Nat){R a:Nat->Option (List bK)}(h:R (k+1)=a (k+1)):hF f l i k p R=hF f l i k p a:=by unfold hF;rw[h]
def Div(f:aN)(l:List aI):Nat->List bK->Prop
 |i,[]=>i=l.length
 |i,t::d=>t.first=i/\q6 f l t i=0/\Div f l (t.last+1).toNat d
theorem R8{f:aN}{l:List aI}{i k p:Nat}{R:Nat->Option (List bK)}{d:List bK}(h:hF f l i k p R=I d)(g:i<=k)(j:k<l.length)
 (c:∀d,R (k+1)=I d->Div f l (k+1) d):Div f l i d:=by
 unfold hF at h;cases al:f.bU[p]? with
 |none=>rw[al] at h;simp at h
 |some q=>
  rw[al] at h;simp only at h;split at h
  . rename_i e;rw[cL] at h;obtain⟨a,b,rfl⟩:=h;have m:p<f.bU.length:=(az.1 al).1;refine⟨rfl,?_,?_⟩
    . rw[q6,ax (by simp only;omega),ax (by simp only;omega)];simp only[dU,al];rw[ax (by simp[e]),ax (by simp)]
    . have:((k:Int)+1).toNat=k+1:=J;simp only[this];exact c a b
  . simp at h
theorem Lp{a c:Option (List bK)}{d:List bK}(h:lg a c=I d):a=I d∨c=I d:=by
 unfold lg at h;cases c with
 |none=>exact .inl h
 |some e=>
  simp only at h;split at h
  . exact .inr h
  . exact .inl h
theorem CV{f:aN}{l:List aI}{i k:Nat}{R:Nat->Option (List bK)}{a:Option (List bK)}(g:i<=k)(j:k<l.length)
 (c:∀d,R (k+1)=I d->Div f l (k+1) d)(e:∀d,a=I d->Div f l i d):∀(p:Nat)(d:List bK),jm f l i k R a p=I d->Div f l i d
 |0,d,h=>e d h
 |p+1,d,h=>by
  rcases Lp h with b|b
  . exact CV g j c e p d b
  . exact R8 b g j c
theorem CP{f:aN}{l:List aI}{i:Nat}{R:Nat->Option (List bK)}(b:∀k d,i<=k->k<l.length->R (k+1)=I d->Div f l (k+1) d):
 ∀(j:Nat)(d:List bK),i+j<=l.length->it f l i R j=I d->Div f l i d
 |0,d,_,h=>by simp[it] at h
 |j+1,d,c,h=>CV J J (λd a=>b (i+j) d J J a) (λd a=>CP b j d J a) _ d h
theorem ya(f:aN)(l:List aI):∀(j i:Nat)(d:List bK),j<=l.length->i<=l.length->eG f l j i=I d->Div f l i d
 |0,i,d,_,a,h=>by
  rw[eG] at h;unfold hL at h;split at h
  . simp only[aC] at h;subst h;assumption
  . simp at h
 |j+1,i,d,c,a,h=>by
  rw[eG] at h;unfold hL at h;split at h
  . rename_i e;subst e;refine CP (λk d g m b=>?_) _ d J h;exact ya f l j (k+1) d J J b
  . exact ya f l j i d J a h
theorem tE{f:aN}{l:List aI}(a:f.Ok):∀(d:List bK)(i:Nat),Div f l i d->0<=fp d/\fp d<=1000000*d.length/\d.length+i<=l.length
 |[],i,h=>by simp only[Div] at h;subst h;simp[fp]
 |t::d,i,⟨n,b,c⟩=>by obtain⟨e,g,j,k,m⟩:=aaa a b;have:=tE a d _ c;rw[sW,cc];omega
def adq{f:aN}{l:List aI}(c:f.Ok)(e:l.length<=8){j i:Nat}{d:List bK}(b:j<=l.length)(a:i<=l.length)(h:eG f l j i=I d):Cu d:=by have:=tE c d i (ya f l j i d b a h);exact⟨this.1,this.2.1,J⟩
theorem ac5(a:Option (List bK)):lg a ag=a:=rfl
theorem R9{f:aN}{l:List aI}{i k p:Nat}{R:Nat->Option (List bK)}(h:R (k+1)=ag):hF f l i k p R=ag:=by
 unfold hF;rw[h];split
 . rfl
 . split<;>rfl
def T1(f:aN)(l:List aI)(c:cg)(z:f.wf)(g:f.Ok)(B:∀r∈l,r.wf)(t:l.length<=8):
 bq aH 43 [.agg f.row,.slice (l.map aI.row) c] (λv=>v=.agg (dx (hS f l))):=by
 have F:maxLen=9223372036854775807:=by rfl
 have H:=g.len;have w:=Uv (j:=l.length) J;simp only[e6] at w;refine bB FB (d0 @aN.row.eq_1 @E6 @pL w ?_);refine d4 l.length (λj a M=>a=[.ptr 0 0,.ptr 2 0,.ptr 3 0,aa l.length,.fn 86 [.ptr 0 0,.ptr 1 0,.ptr 3 0],aa ((l.length:Int) -1 -j)]/\
  M=[.box f.row,.box [.slice (l.map aI.row) c],.box (dx λ_=>ag),.box (dx (eG f l j))]) ⟨by simp[cC,aE],by simp[aN.row,eG]⟩ ?_ ?_;rotate_left
 . rintro a M ⟨rfl,rfl⟩;have h:((l.length:Int) -1 -l.length)=-1:=J;refine aL h ?_;apply aW<;>intro k
   . omega
   refine aL @pL ?_;rw[E3,E5,pL,E4];simp only[go_sem,bi,Nat.reduceBEq];rw[pL,E3];simp only[bi,Nat.reduceLeDiff,decide_true];rw[Kh,Ur];simp only[go_sem,hS,xc];all_goals rfl
 rintro j a M A E ⟨rfl,rfl⟩;obtain⟨i,s⟩:∃i:Nat,(l.length:Int) -1 -j=i:=⟨l.length -1 -j,J⟩;refine aL s ?_;apply cF<;>intro h
 . omega
 refine aL @aN.row.eq_1 ?_;refine d4 (j+1) (λm a M=>a=[.ptr 0 0,.ptr 2 0,.ptr 3 0,aa l.length,.fn 86 [.ptr 0 0,.ptr 1 0,.ptr 3 0],aa i,aa ((i+m:Nat):Int)]/\
  M=[.box f.row,.box [.slice (l.map aI.row) c],.box (dx λ_=>ag),.box (dx (hL (eG f l j) i (it f l i (eG f l j) m)))]) ⟨by simp[cC,aE,s],?_⟩ ?_ ?_
 . have e:eG f l j i=ag:=LB f l j i J J;have x:hL (eG f l j) i ag=eG f l j:=by rw[<-e,B3]
   simp[aN.row,it,x]
 rotate_left
 . rintro a M ⟨rfl,rfl⟩;refine ah ?_;apply aW<;>intro k
   . omega
   refine aL @aN.row.eq_1 ?_;have e:l.length -(j+1)=i:=J;refine bE A ⟨?_,?_⟩
   . have:(i:Int) -1=(l.length:Int) -1 -((j+1:Nat):Int):=J;simp[cC,aE,this]
   . simp[eG,e]
 rintro m a M C G ⟨rfl,rfl⟩;refine ah ?_;apply cF<;>intro k
 . omega
 refine aL @aN.row.eq_1 ?_;refine d4 f.bU.length (λp a M=>a=[.ptr 0 0,.ptr 2 0,.ptr 3 0,aa l.length,.fn 86 [.ptr 0 0,.ptr 1 0,.ptr 3 0],aa i,aa ((i+m:Nat):Int),aa f.bU.length,aa p]/\
  M=[.box f.row,.box [.slice (l.map aI.row) c],.box (dx λ_=>ag),.box (dx (hL (eG f l j) i (jm f l i (i+m) (eG f l j) (it f l i (eG f l j) m) p)))]) ⟨by simp[cC,aE],by simp[aN.row,jm]⟩ ?_ ?_;rotate_left
 . rintro a M ⟨rfl,rfl⟩;refine b6 @bV @pL @aN.row.eq_1 ?_;refine bE C ⟨?_,?_⟩
   . have:((i+m:Nat):Int)+1=((i+(m+1):Nat):Int):=J;simp only[cC,aE,this];rfl
   . simp only[it]
 rintro p a M u D ⟨rfl,rfl⟩;obtain⟨q,al⟩:∃q,f.bU[p]? =I q:=⟨f.bU[p],by simp⟩;have b:i+m+1≠i:=J;simp-implicitDefEqProofs (disch:=omega) only[go_sem,D,Ul,ut _ _ b,aN.row];apply cU<;>intro n
 . have e:eG f l j (i+m+1)=ag:=by simpa[n3] using n
   refine aL @aN.row.eq_1 ?_;refine bE u ⟨?_,?_⟩
   . simp only[cC,aE];rfl
   . simp only[jm,R9 e,ac5]
 obtain⟨d,o⟩:∃d,eG f l j (i+m+1)=I d:=Option.isSome_iff_exists.1 n;refine aL @aN.row.eq_1 ?_;have y:hL (eG f l j) i (jm f l i (i+m) (eG f l j) (it f l i (eG f l j) m) p) (i+m+1)=I d:=by rw[ut _ _ b,o]
 refine ch (T0 f l c _ i (i+m) p q d z g B t J J al y (adq g t J J o)) ?_;rintro v M ⟨rfl,rfl⟩;refine aL @aN.row.eq_1 ?_;refine bE u ⟨?_,?_⟩
 . simp only[cC,aE];rfl
 . have e:hF f l i (i+m) p (hL (eG f l j) i (jm f l i (i+m) (eG f l j) (it f l i (eG f l j) m) p))=hF f l i (i+m) p (eG f l j):=D4 f l i (i+m) p (ut _ _ b);simp only[jm,adK,B2,e]
theorem LC(f:aN)(l:List aI):∀(m j i:Nat),l.length<=i+j->j+m<=l.length->eG f l (j+m) i=eG f l j i
 |0,_,_,_,_=>rfl
 |m+1,j,i,a,b=>by rw[show j+(m+1)=(j+m)+1 from rfl,eG,ut _ _ J];exact LC f l m j i a J
def y4{f:aN}{l:List aI}{i j:Nat}(h:l.length<=i+j)(a:j<=l.length):hS f l i=eG f l j i:=by have:=LC f l (l.length -j) j i h J;rwa [Nat.add_sub_cancel' a] at this
def Dg(f:aN)(l:List aI):hS f l l.length=I []:=by rw[y4 (j:=0) J J,eG,B2]
theorem CU{f:aN}{l:List aI}{i k:Nat}{R b:Nat->Option (List bK)}(a:Option (List bK))(h:R (k+1)=b (k+1)):∀p,jm f l i k R a p=jm f l i k b a p
 |0=>rfl
 |p+1=>by rw[jm,jm,CU a h p,D4 f l i k p h]
theorem CO{f:aN}{l:List aI}{i:Nat}{R a:Nat->Option (List bK)}:∀j,(∀k,i<=k->k<i+j->R (k+1)=a (k+1))->it f l i R j=it f l i a j
 |0,_=>rfl
 |j+1,h=>by rw[it,it,CO j (λk b c=>h k b J),CU _ (h (i+j) J J)]
def Di{f:aN}{l:List aI}{i:Nat}(e:i<l.length):hS f l i=it f l i (hS f l) (l.length -i):=by obtain⟨j,g⟩:∃j,l.length=i+(j+1):=⟨l.length -i -1,J⟩;have a:l.length -(j+1)=i:=J;have b:l.length -i=j+1:=J;rw[y4 (j:=j+1) J J,eG,a,B2,b];exact CO _ λk c d=>(y4 J J).symm
theorem CW{f:aN}{l:List aI}{i k:Nat}{R:Nat->Option (List bK)}{a:Option (List bK)}{d:List bK}:∀p,jm f l i k R a p=I d->a=I d∨∃q,hF f l i k q R=I d
 |0,h=>.inl h
 |p+1,h=>by
  rcases Lp h with b|b
  . exact CW p b
  . exact .inr ⟨p,b⟩
theorem CQ{f:aN}{l:List aI}{i:Nat}{R:Nat->Option (List bK)}{d:List bK}:∀j,it f l i R j=I d->∃k p,i<=k/\k<i+j/\hF f l i k p R=I d
 |0,h=>by simp[it] at h
 |j+1,h=>by
  rcases CW _ h with e|⟨q,e⟩
  . obtain⟨k,p,a,b,c⟩:=CQ j e;exact⟨k,p,a,J,c⟩
  . exact⟨i+j,q,J,J,e⟩
theorem Qu{f:aN}{l:List aI}{i:Nat}{b:List bK}(g:i<l.length)(h:hS f l i=I b):
 ∃(t:bK)(d:List bK)(k:Nat),b=t::d/\t.first=i/\t.last=k/\i<=k/\k<l.length/\hS f l (k+1)=I d:=by
 rw[Di g] at h;obtain⟨k,p,c,j,a⟩:=CQ _ h;unfold hF at a;cases al:f.bU[p]? with
 |none=>rw[al] at a;simp at a
 |some q=>
  rw[al] at a;simp only at a;split at a
  . rw[cL] at a;obtain⟨d,e,rfl⟩:=a;exact⟨_,d,k,rfl,rfl,rfl,c,J,e⟩
  . simp at a
def tv{f:aN}{l:List aI}{i:Nat}{d:List bK}(a:i<=l.length)(h:hS f l i=I d):Div f l i d:=ya f l l.length i d (bk _) a h
def mT(a c:Option (List bK)):Prop:=∀e,c=I e->∃b,a=I b/\fp b<=fp e
def mT.refl(a:Option (List bK)):mT a a:=λe h=>⟨e,h,fS _⟩
def mT.trans{a b c:Option (List bK)}(d:mT a b)(f:mT b c):mT a c:=λe g=>by obtain⟨x,h,j⟩:=f e g;obtain⟨y,i,k⟩:=d x h;exact⟨y,i,J⟩
theorem Dj(e:List bK)(s n:Int):qx (I e) s n=(decide (s<fp e)||(decide (s=fp e)&&decide (n<(e.length:Int)))):=rfl
theorem Lo(a c:Option (List bK)):mT (lg a c) a:=by
 intro e b;subst b;cases c with
 |none=>exact⟨e,rfl,fS _⟩
 |some x=>
  simp only[lg];split
  . rename_i h;refine⟨x,rfl,?_⟩;rw[Dj] at h;simp only[ln,bL,cZ] at h;omega
  . exact⟨e,rfl,fS _⟩
def ac6(a c:Option (List bK)):mT (lg a c) c:=by
 intro e b;subst b;simp only[lg];split
 . exact⟨e,rfl,fS _⟩
 . rename_i h;cases a with
   |none=>simp[qx,n3] at h
   |some x=>refine⟨x,rfl,?_⟩;rw[Dj] at h;simp only[ln,bL,cZ] at h;omega
theorem CY{f:aN}{l:List aI}{i k:Nat}{R:Nat->Option (List bK)}{a:Option (List bK)}:∀p,mT (jm f l i k R a p) a
 |0=>mT.refl _
 |p+1=>(Lo _ _).trans (CY p)
theorem CX{f:aN}{l:List aI}{i k:Nat}{R:Nat->Option (List bK)}{a:Option (List bK)}{q:Nat}:∀p,q<p->mT (jm f l i k R a p) (hF f l i k q R)
 |p+1,h=>by
  rcases eT q p with b|b
  . exact(Lo _ _).trans (CX p b)
  . have:q=p:=J;subst this;exact ac6 _ _
theorem CR{f:aN}{l:List aI}{i:Nat}{R:Nat->Option (List bK)}{m q:Nat}(al:q<f.bU.length):∀j,m<j->mT (it f l i R j) (hF f l i (i+m) q R)
 |j+1,h=>by
  rcases eT m j with a|a
  . exact(CY _).trans (CR al j a)
  . have:m=j:=J;subst this;exact CX _ al
def Z9{f:aN}{l:List aI}{t:bK}{i:Nat}(h:q6 f l t i=0):
 ∃(p k:Nat)(q:cv),t=⟨p,i,k,gy f q l i⟩/\f.bU[p]? =I q/\i<=k/\k<l.length/\iS q (part l i k)=U:=by
 unfold q6 at h;split at h
 . simp at h
 rename_i e;split at h
 . simp at h
 rename_i g;obtain⟨p,d⟩:∃p:Nat,t.o8=p:=⟨t.o8.toNat,J⟩;obtain⟨k,c⟩:∃k:Nat,t.last=k:=⟨t.last.toNat,J⟩;have b:t.first=i:=J;simp only[d,c,b,dU] at h;split at h
 . simp at h
 rename_i q al;split at h
 . simp at h
 rename_i a;split at h
 . simp at h
 rename_i j;refine⟨p,k,q,?_,al,J,J,by simpa using a⟩;cases t;simp_all
def Z_{f:aN}{l:List aI}{i p k:Nat}{q:cv}(al:f.bU[p]? =I q)(b:i<=k)(c:k<l.length)(a:iS q (part l i k)=U):q6 f l ⟨p,i,k,gy f q l i⟩ i=0:=by have d:p<f.bU.length:=(az.1 al).1;rw[q6,ax (by simp only;omega),ax (by simp only;omega)];simp only[dU,al];rw[ax (by simp[a]),ax (by simp)]
def u0{f:aN}{l:List aI}{i:Nat}{t:bK}{d:List bK}(h:Div f l i (t::d)):
 ∃(p k:Nat)(q:cv),t=⟨p,i,k,gy f q l i⟩/\f.bU[p]? =I q/\i<=k/\k<l.length/\iS q (part l i k)=U/\Div f l (k+1) d:=by
 obtain⟨_,j,g⟩:=h;obtain⟨p,k,q,rfl,a,b,c,e⟩:=Z9 j;have:((k:Int)+1).toNat=k+1:=J;simp only[this] at g;exact⟨p,k,q,rfl,a,b,c,e,g⟩
def w2{f:aN}{l:List aI}{i p k:Nat}{q:cv}{d:List bK}(al:f.bU[p]? =I q)(a:i<=k)(b:k<l.length)(c:iS q (part l i k)=U)(h:Div f l (k+1) d):
 Div f l i (⟨p,i,k,gy f q l i⟩::d):=by
 refine⟨rfl,Z_ al a b c,?_⟩;have:((k:Int)+1).toNat=k+1:=J;simp only[this];exact h
theorem Dh{f:aN}{l:List aI}:∀(d:List bK)(i:Nat),Div f l i d->∃b,hS f l i=I b/\fp b<=fp d
 |[],i,h=>by simp only[Div] at h;subst h;exact⟨[],Dg f l,fS _⟩
 |t::d,i,h=>by
  obtain⟨p,k,q,rfl,al,s,u,j,n⟩:=u0 h;obtain⟨b,g,r⟩:=Dh d _ n;have o:hF f l i k p (hS f l)=I (⟨p,i,k,gy f q l i⟩::b):=by simp only[hF,al,j,g,if_true];rfl
  obtain⟨m,rfl⟩:∃m,k=i+m:=⟨k -i,J⟩;obtain⟨a,e,c⟩:=CR (f:=f) (l:=l) (i:=i) (R:=hS f l) (m:=m) (az.1 al).1 (l.length -i) J _ o;refine⟨a,by rw[Di J,e],?_⟩;rw[sW] at c⊢;simp only at c⊢;omega
def gT(f:aN)(l:List aI):Int×List bK×Int:=
 if nu f l.length≠0 then(0,[],nu f l.length) else match hS f l 0 with
 |none=>(0,[],34)
 |some d=>(r3 f (fp d),d,0)
def EQ{f:aN}{l:List aI}(h:nu f l.length=0):gT f l=match hS f l 0 with|none=>(0,[],34)|some d=>(r3 f (fp d),d,0):=by rw[gT,ax (by simp[h])]
def S_{f:aN}{l:List aI}{i:Nat}(h:Div f l i []):i=l.length:=h
def w_(r:Int×List bK×Int)(c:cg):V:=.tuple [aa r.1,.slice (r.2.1.map bK.row) c,aa r.2.2]
def zq(r:Int×List bK×Int):cg:=if r.2.2=0 then .bF else .nil
def TY(f:aN)(l:List aI)(c:cg)(p:f.wf)(C:∀r∈l,r.wf):
 bq aH 17 [.agg f.row,.slice (l.map aI.row) c] (λv=>v=w_ (gT f l) (zq (gT f l))):=by
 have P:maxLen=9223372036854775807:=by rfl
 refine bB Fv (aL @aN.row.eq_1 ?_);refine bG (T5 f l c p) (ah ?_);apply cF<;>intro b
 . have e:gT f l=(0,[],nu f l.length):=by rw[gT,aF b]
   have h:zq (0,[],nu f l.length)=.nil:=ax b;refine bN e @w_.eq_1 ?_;rw[h];rfl
 obtain⟨h,D⟩:=adT.1 b;have s:=tz h;refine ah ?_;refine bG (T1 f l c p s C D) (es @E6 @pL @E4 @E5 @Um ?_);apply cU<;>intro o
 . have e:gT f l=(0,[],34):=by
    rw[EQ b];cases a:hS f l 0 with
    |none=>rfl
    |some d=>simp[n3,a] at o
   refine bN e @w_.eq_1 ?_;rfl
 obtain⟨d,g⟩:∃d,hS f l 0=I d:=Option.isSome_iff_exists.1 o;have e:gT f l=(r3 f (fp d),d,0):=by rw[EQ b,g]
 have Q:=tE s d 0 (tv J g);refine ah ?_;refine c6 d (λj n M=>∃(i ver:Nat),hS f l i=I (d.drop j)/\i<=l.length/\n=[.slice (l.map aI.row) c,.ptr 0 0,.ptr 1 0,.an 2 ver 0 j,aa i]/\
  M=[.box f.row,.box (dx (hS f l)),.aj 4 ((d.take j).map bK.row) ver 0]) ⟨0,0,by simpa using g,J,rfl,by simp[aN.row]⟩ ?_ ?_;rotate_left
 . rintro n M ⟨i,ver,a,m,rfl,rfl⟩;rw[List.drop_length] at a;have y:i=l.length:=S_ (tv m a);subst y;refine b6 @bV @aN.row.eq_1 @Un ?_;refine bG (TZ f _) (bN @f_.{0} g ?_);rw[e];rfl
 rintro j t n M u A L ⟨i,ver,a,m,rfl,rfl⟩;rw[zK u] at a;obtain⟨_,_,_,_,_,_,K,_⟩:=u0 (tv m a);have z:i<l.length:=J;obtain⟨R,F,k,x,H,q,N,O,B⟩:=Qu z a;obtain⟨rfl,rfl⟩:=List.cons.inj x;have w:nk (hS f l i)=t:=by rw[a];rfl
 refine aL @aN.row.eq_1 ?_;apply cF<;>intro G
 . omega
 have E:(d.take j).length=j:=by simp;omega
 refine oe @aN.row.eq_1 @Ux @Uq @pL w q @bK.row.eq_1 E ?_;refine bE A ⟨k+1,ver+1,B,J,?_,?_⟩
 . simp only[cC,aE];rfl
 . rw[gM,u,iL];simp only[Option.toList_some,gg,jD,bK.row,q]
def CH(l:List aI):Prop:=∀i a b,l[i]? =I a->l[i+1]? =I b->a.aR<=b.aR
theorem CH.le{l:List aI}(h:CH l):∀(m i:Nat)(a b:aI),l[i]? =I a->l[i+m]? =I b->a.aR<=b.aR
 |0,i,a,b,d,c=>by rw[g_,d] at c;simp at c;subst c;exact fS _
 |m+1,i,a,b,d,c=>by
  have j:i+m+1<l.length:=(az.1 c).1;have e:l[i+m]? =I l[i+m]:=by simp
  have f:=h.le m i a _ d e;have g:=h (i+m) _ b e c;omega
def J_{l:List aI}{i k m:Nat}(h:k<m):part (l.take m) i k=part l i k:=by unfold part;rw[List.drop_take,List.take_take,Nat.min_eq_left J]
def LG{f:aN}{q:cv}{l:List aI}{i m:Nat}(h:i<m):gy f q (l.take m) i=gy f q l i:=by unfold gy;rw[fT h,fT J]
theorem EC{f:aN}{l:List aI}{m:Nat}{e:List bK}(c:Div f l m e)(s:m<=l.length):∀(d:List bK)(i:Nat),Div f (l.take m) i d->∃a,Div f l i a/\fp a=fp d+fp e
 |[],i,h=>by simp only[Div,fh] at h;have:i=m:=J;subst this;exact⟨e,c,by simp[fp]⟩
 |t::d,i,h=>by obtain⟨p,k,q,rfl,al,n,o,b,r⟩:=u0 h;rw[fh] at o;obtain⟨a,g,j⟩:=EC c s d (k+1) r;rw[J_ J] at b;refine⟨_,w2 al n J b g,?_⟩;rw[sW,sW,j,LG J];simp only;omega
def o6{l:List aI}{j:Nat}:part l j j=(l.drop j).take 1:=by have:j+1 -j=1:=J;unfold part;rw[this]
def pX(l:a7):Int:=if l.bl=U∨l.aR<0∨l.aQ<l.aR∨14400<l.aQ -l.aR then 0 else l.aQ -l.aR
def ki:List a7->Int
 |[]=>0
 |l::a=>pX l+ki a
theorem ad_(a:List a7)(l:a7):ki (a++[l])=ki a+pX l:=by
 induction a with
 |nil=>simp[ki]
 |cons x a b=>simp only[fG,ki,b];omega
def Yu(l:a7):0<=pX l/\pX l<=14400:=by unfold pX;split<;>omega
theorem ad9(l:List a7):0<=ki l/\ki l<=14400*l.length:=by
 induction l with
 |nil=>simp[ki]
 |cons x l a=>have:=Yu x;simp only[ki,cc];omega
def a7.wf(l:a7):Prop:=dd l.aR/\dd l.aQ
def Pz(a:List a7)(c:cg)(s:∀l∈a,l.wf)(z:a.length<=1000):bq aH 202 [.agg [.slice (a.map a7.row) c]] (λv=>v=aa (ki a)):=by
 refine bB Gw (ah ?_);refine c6 a (λi f M=>f=[aa (ki (a.take i)),.slice (a.map a7.row) c,aa a.length,aa i]/\M=[.box [.slice (a.map a7.row) c]]) ⟨rfl,rfl⟩ ?_ ?_;rotate_left
 . rintro f M ⟨rfl,rfl⟩;rw[f_];exact jy @bV
 rintro i l f M e b o ⟨rfl,rfl⟩;obtain⟨⟨w,x⟩,⟨t,u⟩⟩:=s l (bI e);have y:=ad9 (a.take i);have A:(a.take i).length<=1000:=by rw[fh];omega
 have j:ki (a.take (i+1))=ki (a.take i)+pX l:=by rw[gM,e];exact ad_ _ _
 have d:∀(p:Prop),p->(p->pX l=0)->ki (a.take (i+1))=ki (a.take i):=λp r h=>by rw[j,h r];omega
 refine b6 o e @a7.row.eq_1 ?_;apply dt<;>intro g
 . refine ah ?_;exact cN b rfl ⟨by simp[cC,aE,d _ g λh=>aF (.inl h)],rfl⟩
 refine ah ?_;apply aW<;>intro k
 . refine ah ?_;exact cN b rfl ⟨by simp[cC,aE,d _ k λh=>aF (.inr (.inl h))],rfl⟩
 refine ah ?_;apply aW<;>intro m
 . refine ah ?_;exact cN b rfl ⟨by simp[cC,aE,d _ m λh=>aF (.inr (.inr (.inl h)))],rfl⟩
 refine ah ?_;apply aW<;>intro n
 . refine ah ?_;exact cN b rfl ⟨by simp[cC,aE,d _ n λh=>aF (.inr (.inr (.inr h)))],rfl⟩
 have q:pX l=l.aQ -l.aR:=by unfold pX;rw[ax];rw[g];simp;omega
 refine ah ?_;exact cN b rfl ⟨by simp[cC,aE,j,q],rfl⟩
structure lu where
 aR:Int
 aQ:Int
 aY:Int
 sd:Int
 bD:Int
def lu.row(c:lu):List V:=[aa c.aR,aa c.aQ,aa c.aY,aa c.sd,aa c.bD]
def pG(q:aG)(c:List a7):Int×Int:=match c[0]?,c[c.length -1]? with
 |some a,I b=>(a.aR,b.aQ)
 |_,_=>(q.aM,q.aM)
def iA(n:ak)(q:aG)(a:List a7):lu×List bK×Int:=
 if(fo n a).1≠0 then(⟨0,0,0,0,0⟩,[],(fo n a).1)
 else if(gT n.bQ (fo n a).2).2.2≠0 then(⟨0,0,0,0,0⟩,[],(gT n.bQ (fo n a).2).2.2)
 else(⟨(pG q a).1,(pG q a).2,(fo n a).2.length,(gT n.bQ (fo n a).2).1,ki a⟩,(gT n.bQ (fo n a).2).2.1,0)
def uY(r:lu×List bK×Int)(d:cg):V:=.tuple [.agg r.1.row,.slice (r.2.1.map bK.row) d,aa r.2.2]
def vI(a b:Int):dd (lN .i64 a b):=Ce _
def abJ(n:ak){l:a7}(h:l.wf):(sI n l).wf:=⟨h.1,h.2,Ce _,Ce _⟩
def abM(n:ak){out:List aI}{l:a7}(h:l.wf)(b:∀r∈out,r.wf):∀r∈ii n out l,r.wf:=by
 unfold ii;split
 . split
   . rename_i e d;intro r c;rcases List.mem_or_eq_of_mem_set c with a|rfl
     . exact b r a
     . exact⟨(b e (bI d)).1,h.2,vI _ _,vI _ _⟩
   . exact b
 . intro r c;rcases dv.1 c with a|a
   . exact b r a
   . rw[dV.1 a];exact abJ n h
theorem KP(n:ak):∀(b:List a7)(d:Bool)(out:List aI),(∀l∈b,l.wf)->(∀r∈out,r.wf)->∀r∈(kC n d b out).2,r.wf
 |[],d,out,_,a=>a
 |l::b,d,out,e,a=>by
  unfold kC;split
  . intro r c;cases c
  split
  . intro r c;cases c
  refine KP n b _ _ (λx f=>e x (fs _ f)) ?_;split
  . exact abM n (e l (ft ..)) a
  . exact a
def abQ(n:ak){a:List a7}(h:∀l∈a,l.wf):∀r∈(fo n a).2,r.wf:=KP n a ad [] h λr b=>by cases b
def wR(r:lu×List bK×Int):cg:=if r.2.2=0 then .bF else .nil
theorem MZ(n:ak)(q:aG)(f:List a7)(c:cg)(t:n.wf)(ok:di n)(s:f.length<=1000)(z:∀l∈f,l.wf):
 bq aH 169 [.agg n.row,.agg q.row,.agg [.slice (f.map a7.row) c]] (λv=>v=uY (iA n q f) (wR (iA n q f))):=by
 have w:=Pm n f c t ok s;have r:=Pz f c z s;have u:=λd=>TY n.bQ (fo n f).2 d t.bQ (abQ n z);simp only[ak.row,aN.row] at w u;refine bB Gn (bN @ak.row.eq_1 @aG.row.eq_1 ?_);refine bG w (ah ?_);apply cF<;>intro g
 . have e:iA n q f=(⟨0,0,0,0,0⟩,[],(fo n f).1):=by rw[iA,aF g]
   have j:wR (⟨0,0,0,0,0⟩,[],(fo n f).1)=.nil:=ax g;refine b6 e @uY.eq_1 @lu.row.eq_1 ?_;rw[j];rfl
 refine ah ?_;refine bG (u _) (aL @w_.eq_1 ?_);apply cF<;>intro i
 . have e:iA n q f=(⟨0,0,0,0,0⟩,[],(gT n.bQ (fo n f).2).2.2):=by rw[iA,ax (by simp[g]),aF i]
   have j:wR (⟨0,0,0,0,0⟩,[],(gT n.bQ (fo n f).2).2.2)=.nil:=ax i;refine b6 e @uY.eq_1 @lu.row.eq_1 ?_;rw[j];rfl
 refine ah ?_;refine nO r (ah ?_);have y:iA n q f=(⟨(pG q f).1,(pG q f).2,(fo n f).2.length,(gT n.bQ (fo n f).2).1,ki f⟩,(gT n.bQ (fo n f).2).2.1,0):=by rw[iA,ax (by simp[g]),ax (by simp[i])]
 have p:zq (gT n.bQ (fo n f).2)=.bF:=aF i;refine⟨⟨bq.call r rfl λx B _=>⟨B,rfl⟩,λh=>by cases h⟩,?_⟩;apply aW<;>intro A
 . obtain⟨a,b,m,o⟩:=EY (l:=f) J;have k:pG q f=(a.aR,b.aQ):=by simp only[pG,m,o]
   refine b6 m o @a7.row.eq_1 ?_;rw[y,k,p];rfl
 . have k:pG q f=(q.aM,q.aM):=by
    have:f=[]:=by cases f with
     |nil=>rfl
     |cons _ _=>simp at A
    rw[this];rfl
   refine ah ?_;rw[y,k,p];rfl
def hH(f:aN):List V:=[.slice (f.bU.map cv.row) .bF,aa f.hG,aa f.e4,aa f.kf]
def fe(f:aN)(l:List aI):Int:=match hS f l 0 with|some d=>fp d|none=>-1
def gx(f:aN)(l:List aI)(i:Nat):Int:=if i<=l.length then fe f (l.take i) else 0
def Zs(f:aN):fe f []=0:=by have:=Dg f [];simp only[eu] at this;simp[fe,this,fp]
theorem adg(f:aN)(i:Nat):gx f [] i=0:=by
 unfold gx;split
 . rw[List.take_nil,Zs]
 . rfl
def AN{f:aN}{l:List aI}(c:f.Ok){d:List bK}(h:Div f l 0 d):0<=fe f l/\fe f l<=fp d:=by obtain⟨e,a,b⟩:=Dh d 0 h;have:=tE c _ _ (tv J a);simp only[fe,a];exact⟨this.1,b⟩
theorem AM{f:aN}{l:List aI}(h:0<=fe f l):∃d,Div f l 0 d/\fp d=fe f l:=by
 unfold fe at h⊢;cases a:hS f l 0 with
 |none=>rw[a] at h;simp at h
 |some d=>exact⟨d,tv J a,rfl⟩
theorem Zr{f:aN}{l:List aI}(b:f.Ok)(h:fe f l<0):fe f l=-1:=by
 unfold fe at h⊢;cases a:hS f l 0 with
 |none=>rfl
 |some d=>rw[a] at h;have:=tE b _ _ (tv J a);simp only at h;omega
theorem ED{f:aN}{l:List aI}:∀(d:List bK)(i:Nat),Div f l i d->i<l.length->
 ∃(a:List bK)(p j:Nat)(q:cv),d=a++[⟨p,j,(l.length -1:Nat),gy f q l j⟩]/\f.bU[p]? =I q/\i<=j/\j<l.length/\iS q (part l j (l.length -1))=U/\Div f (l.take j) i a
 |[],i,h,g=>by simp only[Div] at h;omega
 |t::d,i,h,g=>by
  obtain⟨p,k,q,rfl,al,s,z,b,c⟩:=u0 h;rcases eT (k+1) l.length with e|e
  . obtain⟨a,w,j,x,rfl,m,y,n,o,r⟩:=ED d (k+1) c e;refine⟨⟨p,i,k,gy f q l i⟩::a,w,j,x,rfl,m,J,n,o,?_⟩;have B:(l.take j).length=j:=by simp;omega
    have:=w2 (f:=f) (l:=l.take j) (i:=i) (k:=k) (p:=p) (q:=q) (d:=a) al s J (by rw[J_ J];exact b) r;rw[LG J] at this;exact this
  . have v:k=l.length -1:=J;subst v;have u:d=[]:=by
     cases d with
     |nil=>rfl
     |cons t d=>obtain⟨_,_,_,_,_,_,A,_⟩:=u0 c;omega
    subst u;exact⟨[],p,i,q,rfl,al,bk _,g,b,by simp only[Div,fh];omega⟩
def adw(a b:List bK):fp (a++b)=fp a+fp b:=by simp[fp,List.sum_append]
def LN(t:bK):fp [t]=t.gf:=by simp[fp]
def Mu{f:aN}{l:List aI}(j:f.Ok){i p:Nat}{q:cv}(n:i<l.length)(al:f.bU[p]? =I q)(a:0<=fe f (l.take i))(e:iS q (part l i (l.length -1))=U):
 0<=fe f l/\fe f l<=fe f (l.take i)+gy f q l i:=by
 obtain⟨d,g,k⟩:=AM a;have h:Div f l i [⟨p,i,(l.length -1:Nat),gy f q l i⟩]:=w2 al J J e (by simp only[Div];omega);obtain⟨m,b,c⟩:=EC h J d 0 g;have:=AN j b;rw[c,k,LN] at this;exact this
def aec{f:aN}{l:List aI}(n:f.Ok)(m:0<l.length)(h:0<=fe f l):
 ∃(i p:Nat)(q:cv),i<l.length/\f.bU[p]? =I q/\0<=fe f (l.take i)/\iS q (part l i (l.length -1))=U/\fe f (l.take i)+gy f q l i<=fe f l:=by
 obtain⟨d,k,a⟩:=AM h;obtain⟨o,p,j,q,rfl,b,r,c,e,g⟩:=ED d 0 k m;have:=AN n g;rw[adw,LN] at a;simp only at a;exact⟨j,p,q,c,b,this.1,e,J⟩
def pv(f:aN)(l:List aI)(i p:Nat)(s:Int):Prop:=∃q,i<l.length/\f.bU[p]? =I q/\0<=fe f (l.take i)/\iS q (part l i (l.length -1))=U/\s=fe f (l.take i)+gy f q l i
structure kO(f:aN)(l:List aI)(V:Nat->Nat->Prop)(b:Int):Prop where
 t_:b=-1∨0<=b/\∃i p,pv f l i p b
 tY:∀i p s,V i p->pv f l i p s->0<=b/\b<=s
def kO.done{f:aN}{l:List aI}{V:Nat->Nat->Prop}{b:Int}(d:f.Ok)(t:0<l.length)(h:kO f l V b)(s:∀i p,i<l.length->p<f.bU.length->V i p):b=fe f l:=by
 rcases Int.lt_or_le (fe f l) 0 with e|e
 . rcases h.t_ with a|⟨a,i,p,q,c,g,j,k,_⟩
   . rw[a,Zr d e]
   . have:=Mu d c g j k;omega
 . obtain⟨i,p,q,a,c,g,j,k⟩:=aec d t e;obtain⟨v,w⟩:=h.tY i p _ (s i p a (az.1 c).1) ⟨q,a,c,g,j,rfl⟩;rcases h.t_ with x|⟨_,y,z,A,m,n,o,r,u⟩
   . omega
   . have:=Mu d m n o r;omega
theorem kO.skip{f:aN}{l:List aI}{V d:Nat->Nat->Prop}{b:Int}{i p:Nat}(h:kO f l V b)(k:∀s,¬pv f l i p s)(j:∀a c,d a c->V a c∨(a=i/\c=p)):kO f l d b:=
 ⟨h.t_,λa c s m e=>by
   rcases j a c m with g|⟨rfl,rfl⟩
   . exact h.tY a c s g e
   . exact aJ e (k s)⟩
def pv.same{f:aN}{l:List aI}{i p:Nat}{s t:Int}(h:pv f l i p s)(k:pv f l i p t):s=t:=by obtain⟨q,_,a,_,_,b⟩:=h;obtain⟨d,_,ba,_,_,c⟩:=k;rw[a] at ba;simp only[aC] at ba;subst ba;rw[b,c]
def kO.take{f:aN}{l:List aI}{V d:Nat->Nat->Prop}{b s:Int}{i p:Nat}(h:kO f l V b)(e:pv f l i p s)(j:0<=s)(q:b<0∨s<b)(m:∀a c,d a c->V a c∨(a=i/\c=p)):kO f l d s:=
 ⟨.inr ⟨j,i,p,e⟩,λa c o n g=>by
   rcases m a c n with k|⟨rfl,rfl⟩
   . have:=h.tY a c o k g;omega
   . have:=e.same g;omega⟩
def kO.cj{f:aN}{l:List aI}{V d:Nat->Nat->Prop}{b s:Int}{i p:Nat}(h:kO f l V b)(m:pv f l i p s)(o:¬b<0)(ae:¬s<b)(j:∀a c,d a c->V a c∨(a=i/\c=p)):kO f l d b:=
 ⟨h.t_,λa c n k e=>by
   rcases j a c k with g|⟨rfl,rfl⟩
   . exact h.tY a c n g e
   . have:=m.same e;omega⟩
def kO.start{f:aN}{l:List aI}:kO f l (λ_ _=>False) (-1):=⟨.inl rfl,λ_ _ _ h=>h.elim⟩
def h0(S:Nat->Int):List V:=[aa (S 0),aa (S 1),aa (S 2),aa (S 3),aa (S 4),aa (S 5),aa (S 6),aa (S 7),aa (S 8)]
theorem Lv(S:Nat->Int):(h0 S).length=9:=rfl
def Lu(S:Nat->Int){i:Nat}(h:i<9):(h0 S)[i]? =I (aa (S i)):=oY (p:=λi=>(h0 S)[i]? =I (aa (S i))) rfl rfl rfl rfl rfl rfl rfl rfl rfl h
def Lt(S:Nat->Int){i:Nat}(h:i<9):((h0 S).drop (i*1))[0]? =I (aa (S i)):=by rw[h2,jV,g_,Lu S h]
def adc(S:Nat->Int)(x:Int){i:Nat}(h:i<9):(h0 S).set i (aa x)=h0 (λj=>if j=i then x else S j):=by refine oY (p:=λi=>(h0 S).set i (aa x)=h0 (λj=>if j=i then x else S j)) ?_ ?_ ?_ ?_ ?_ ?_ ?_ ?_ ?_ h<;>simp[h0]
theorem ade(k:Nat)(S:Nat->Int):cd k (h0 S)=U:=rfl
theorem adb(a b c d e f g h i j k l m n o p:V)(S:Nat->Int):e6 [a,b,c,d,e,f,g,h,i,j,k,l,m,n,o,p] 7 (h0 S)=a::b::c::d::e::f::g::h0 S:=rfl
def pM(f:aN)(a:V)(r:aI)(n:Int)(S:Nat->Int):List V:=
 .cq (hH f)::a::aa r.aR::aa r.aQ::aa r.er::aa r.dn::aa n::h0 S
def e5(f:aN):List aI->V
 |[]=>.cq (pM f .db ⟨0,0,0,0⟩ 0 (gx f []))
 |r::a=>.cq (pM f (e5 f a) r ((a.length+1:Nat):Int) (gx f (r::a).reverse))
def kW(f:aN)(S:Nat->Int):List aI->List V
 |[]=>pM f .db ⟨0,0,0,0⟩ 0 S
 |r::a=>pM f (e5 f a) r ((a.length+1:Nat):Int) S
theorem tP(f:aN)(a:List aI):e5 f a=.cq (kW f (gx f a.reverse) a):=by cases a<;>rfl
theorem xf(f:aN)(a:List aI)(k:Nat):(e5 f a).under k=U:=by cases a<;>rfl
def Av(a:List aI):aI:=a.headD ⟨0,0,0,0⟩
def Ko(f:aN)(a:List aI):V:=match a with|[]=>.db|_::a=>e5 f a
theorem vi(f:aN)(S:Nat->Int)(a:List aI):kW f S a=pM f (Ko f a) (Av a) (a.length:Nat) S:=by cases a<;>rfl
def p3:V->Nat->V
 |.cq cells,k=>.eD (cells.drop k)
 |.ptr id o,k=>.ptr id (o+k)
 |v,_=>v
structure mO(M:Mem)(v:V)(cells:List V):Prop where
 nil:kx v=I v
 fB:∀k,k<=cells.length->iF k v=I (p3 v k)
 ld:∀k(n:Nat) rU L,k<=cells.length->dZ n rU (p3 v k) (M++L)=g6 n rU (cells.drop k) 0
 ay:∀(k len:Nat)(i:Int),0<=i->i<(len:Int)->k+i.toNat<=cells.length->mo len 1 (p3 v k) (aa i)=I (p3 v (k+i.toNat))
def mO.cq(M:Mem)(cells:List V):mO M (.cq cells) cells:=by
 refine⟨rfl,λk h=>?_,λk n d L _=>rfl,λk len i a b e=>?_⟩
 . simp only[iF,p3,be h,bi]
 . have c:decide (i.toNat<=(cells.drop k).length)=U:=be (by rw[kJ];omega);simp only[p3,mo,be a,be b,cR,bi,iF,c,List.drop_drop,jV]
def mO.ptr{M:Mem}{id:Nat}{cells:List V}(h:M[id]? =I (.box cells)):mO M (.ptr id 0) cells:=by
 refine⟨rfl,λk _=>by simp[iF,p3],λk n b L f=>?_,λk len i c d e=>?_⟩
 . simp only[p3,dm,dZ,a0 h L];cases b with
   |false=>simp[g6]
   |true=>
    simp only[g6,kJ,hN,dm];by_cases a:k+n<=cells.length
    . rw[be a,bR]
    . rw[decide_eq_false a,h8]
 . simp only[p3,mo,be c,be d,cR,bi,iF,dm,jV]
theorem sf(f:aN)(S:Nat->Int)(a:List aI):(kW f S a).length=16:=by rw[vi];rfl
def Zh(zero:List V)(a bytes n:Nat)(M:Mem)(h:n<=9)(g:bytes<=32):jq zero a bytes (aa (n:Int)) (aa (n:Int)) M=I (.an M.length 0 0 n,M++[.aj a (d_ n zero) 0 0]):=by have f:(n:Int)*(bytes:Int)<=9*32:=Int.mul_le_mul J J J J;have b:decide (0<=(n:Int))=U:=bR;have c:decide ((n:Int)<=(n:Int))=U:=bR;have d:decide ((n:Int)*(bytes:Int)<=2^48)=U:=bR;have e:decide ((n:Int)<2^62)=U:=bR;simp only[jq,b,c,d,e,dU,cR,bi]
def SZ{a b:Nat}(h:a<b):decide (a<b)=U:=be h
def yt:List V:=[v0,v0,v0,v0]
def mv(a:List aI)(j:Nat):List (List V):=d_ (a.length -j) yt++((a.take j).reverse).map aI.row
def Y5(a:List aI){j:Nat}(h:j<=a.length):(mv a j).length=a.length:=by simp[mv];omega
def Y6{a:List aI}{j:Nat}{r:aI}(h:a[j]? =I r):(mv a j).set (a.length -1 -j) r.row=mv a (j+1):=by have c:j<a.length:=(az.1 h).1;have e:a.length -j=(a.length -1 -j)+1:=J;have b:a.length -(j+1)=a.length -1 -j:=J;rw[mv,mv,gM,h,b,e,List.replicate_succ',cS];simp
def Y4{rl:List aI}{j:Nat}(h:j<rl.length):(mv rl j)[rl.length -1 -j]? =I yt:=by rw[mv,et (by simp;omega),List.getElem?_replicate];rw[aF J]
def Y3(a:List aI):mv a a.length=a.reverse.map aI.row:=by simp[mv]
def Y7(a:List aI):d_ a.length [V.int .i64 0,v0,v0,v0]=mv a 0:=by simp[mv,yt]
def CI{M:Mem}{v:V}{f:aN}{S:Nat->Int}{a:List aI}(h:mO M v (kW f S a))(Q:v.under M.length=U)(G:b4 M.length M=U)(P:a.length<=8):
 bx aH 47 [v] M (λx t=>x=.slice (a.reverse.map aI.row) .bF/\t=M):=by
 have n:∀(K:Mem)(B:au),(K++[B])[K.length]? =I B:=λK B=>by simp
 have E:∀(K:Mem)(B X:au),(K++[B]).set K.length X=K++[X]:=λK B X=>by simp
 have F:∀(K:Mem)(B:au),(K++[B]).take K.length=K:=λK B=>by simp
 have L:∀(K:Mem)(B:au),decide (K.length<=(K++[B]).length)=U:=λK B=>by simp
 have D:∀(K:Mem),decide (K.length<K.length)=ad:=λK=>by simp
 have C:=h.fB 6 (by rw[sf];omega);have d:=h.ld 6 1 ad [] (by rw[sf];omega);have m:=λB=>h.ld 6 1 ad [B] (by rw[sf];omega);have u:g6 1 ad ((kW f S a).drop 6) 0=I (aa (a.length:Nat)):=by rw[vi];rfl
 rw[u] at d m;rw[ez] at d;refine bB FR (he h.nil C d m @Zh @Y7 ?_);refine d4 a.length (λj l N=>∃c S,(a.drop j=[]∨mO M c (kW f S (a.drop j)))/\l=[c,.an M.length 0 0 a.length,aa ((a.length:Int) -1 -j)]/\N=M++[.aj 4 (mv a j) 0 0]) ⟨v,S,.inr h,by simp[cC,aE],rfl⟩ ?_ ?_;rotate_left
 . rintro l N ⟨c,T,b,rfl,rfl⟩;have z:((a.length:Int) -1 -a.length)=-1:=J;refine aL z ?_;apply aW<;>intro A
   . omega
   have H:List.take a.length (a.reverse.map aI.row)=a.reverse.map aI.row:=eS (by simp);simp-implicitDefEqProofs (disch:=omega) only[go_sem,n,F,G,D,Y3,List.length_reverse,H]
 rintro j l N e O ⟨c,T,b,rfl,rfl⟩;obtain⟨x,r⟩:∃x,a[j]? =I x:=⟨a[j],by simp⟩;rw[qC r] at b;replace b:=b.resolve_left (by simp);have ba:=b.fB 2 (by rw[sf];omega);have aD:=b.fB 1 (by rw[sf];omega);have k:=λB=>b.ld 2 4 U [B] (by rw[sf];omega);have s:=λB=>b.ld 1 1 ad [B] (by rw[sf];omega);have y:g6 4 U ((kW f T (x::a.drop (j+1))).drop 2) 0=I (.agg x.row):=rfl;have w:g6 1 ad ((kW f T (x::a.drop (j+1))).drop 1) 0=I (e5 f (a.drop (j+1))):=rfl;rw[y] at k;rw[w] at s;obtain⟨i,p⟩:∃i:Nat,(a.length:Int) -1 -j=i:=⟨a.length -1 -j,J⟩;have q:i=a.length -1 -j:=J;have o:=Y4 (rl:=a) e;rw[<-q] at o;have g:=Y6 r;rw[<-q] at g;simp only[aI.row] at g k;refine aL p ?_;apply cF<;>intro A
 . omega
 simp-implicitDefEqProofs (disch:=omega) only[go_sem,b.nil,aD,ba,s,k,n,E,Y5 a (Nat.le_of_lt e),o,yt,SZ,p];refine bE e ⟨e5 f (a.drop (j+1)),gx f (a.drop (j+1)).reverse,.inr ?_,?_,?_⟩
 . rw[tP];exact mO.cq _ _
 . have:(i:Int) -1=(a.length:Int) -1 -((j+1:Nat):Int):=J;simp[cC,aE,this]
 . rw[g]
def T7(a b d:Int)(c:dd a)(e:dd b)(f:dd d)(n:0<=d):bq aH 96 [aa a,aa b,aa d] (λv=>v=.bool (decide (b -a<=d))):=by
 obtain⟨g,i⟩:=c;obtain⟨j,k⟩:=e;obtain⟨l,m⟩:=f;refine bB F4 ?_;simp-implicitDefEqProofs (maxSteps:=3000000) (disch:=omega) only[go_sem,xL]
 repeat' (refine uB (λh=>?_) (λh=>?_))
 all_goals
  rw[Bool.eq_iff_iff];simp only[cZ,BZ,true_iff];omega
def CJ(f:aN)(p:cv)(l:List aI)(c:cg)(i:Nat)(A:f.wf)(x:f.Ok)(N:0<=p.gf/\p.gf<=1000000)(u:∀r∈l,r.wf)(G:i<l.length)(H:l.length<=maxLen)
 {M:Mem}{v:V}{S:Nat->Int}{rl:List aI}(h:mO M v (kW f S rl))(k:b4 M.length M=U):
 bx aH 49 [v,.agg p.row,.slice (l.map aI.row) c,aa i] M (λv y=>v=aa (gy f p l i)/\y=M):=by
 have L:maxLen=9223372036854775807:=by rfl
 obtain⟨C,D⟩:=x.hG;have g:∀(K:Mem)(B:au),(K++[B])[K.length]? =I B:=λK B=>by simp
 have j:∀(K:Mem)(B:au),(K++[B]).take K.length=K:=λK B=>by simp
 have F:∀(K:Mem)(B:au),decide (K.length<=(K++[B]).length)=U:=λK B=>by simp
 have s:=h.fB 0 (c_ _);have d:=λB=>h.ld 0 1 ad [B] (c_ _);have z:g6 1 ad ((kW f S rl).drop 0) 0=I (.cq (hH f)):=by rw[vi];rfl
 rw[z] at d;have w:∀q,kx (.cq q)=I (.cq q):=λ_=>rfl;refine bB FU ?_;obtain⟨b,n⟩:∃b,l[i]? =I b:=⟨l[i],by simp⟩;obtain⟨a,m⟩:∃a,l[i -1]? =I a:=⟨l[i -1],by simp⟩;have o:gy f p l i=if 0<i/\b.aR -a.aQ<=f.e4 then max 0 (p.gf -f.hG) else p.gf:=by simp only[gy,m,n]
 refine aL @cv.row.eq_1 ?_;apply cF<;>intro E
 . refine d0 g o j k ?_;rw[ax (λe=>J)]
 refine oe h.nil s d w @hH.eq_1 m n @aI.row.eq_1 ?_;refine bG (T7 _ _ _ (u a (bI m)).2.1 (u b (bI n)).1 A.2.2.2.1 x.e4.1) (ah ?_);apply aW<;>intro t
 . refine og h.nil s d w @hH.eq_1 g o j k ?_;rw[aF ⟨J,t⟩]
 . refine d0 g o j k ?_;rw[ax (λe=>t e.2)]
def oO(f:aN):V:=e5 f []
def Pv(f:aN)(c:f.wf):bq aH 19 [.agg f.row] (λv=>((g4 f).2≠0->v=.tuple [.db,aa 20])/\((g4 f).2=0->v=.tuple [oO f,v0])):=by
 refine bB FL (aL @aN.row.eq_1 ?_);refine bG (A8 f c) (aL @ig.eq_1 ?_);apply cF<;>intro a
 . refine aL @ig.eq_1 ?_;simp[a]
 have d:=(tz a).len;refine bN (pS (f:=cv.row) (n:=6) (λr=>rfl) f.bU) @Bool.true_or ?_;have ae:∀i,gx f [] i=0:=adg f;have b:oO f=.cq (.cq (hH f)::.db::v0::v0::v0::v0::v0::[v0,v0,v0,v0,v0,v0,v0,v0,v0]):=by simp only[oO,e5,pM,h0,ae]
 rw[b];rw[Th];show U=U/\(((g4 f).2≠0->_=_)/\((g4 f).2=0->_=_))/\_;exact⟨rfl,⟨λh=>aJ a h,λ_=>rfl⟩,rfl,rfl⟩
def ada(a b c d e f g:V)(S:Nat->Int){i:Nat}(h:i<9):(a::b::c::d::e::f::g::h0 S)[7+i*1]? =I (aa (S i)):=by rw[jV,show 7+i=i+1+1+1+1+1+1+1 by omega];exact Lu S h
def acn(a b c d e f g:V)(S:Nat->Int)(x:Int){i:Nat}(h:i<9):(a::b::c::d::e::f::g::h0 S).set (7+i*1) (aa x)=a::b::c::d::e::f::g::h0 (λj=>if j=i then x else S j):=by rw[jV,show 7+i=i+1+1+1+1+1+1+1 by omega];simp only[List.set_cons_succ,adc S x h]
theorem Pu(f:aN)(r:aI)(aq:f.wf)(D:f.Ok)(a7:r.wf){m:List aI}(a1:∀x∈m,x.wf)(bg:m.length<8):
 bq aH 20 [e5 f m,.agg r.row] (λv=>v=.tuple [e5 f (r::m),v0]):=by
 have af:∀n,kx (.cq n)=I (.cq n):=λ_=>rfl;have O:∀i o,kx (.ptr i o)=I (.ptr i o):=λ_ _=>rfl;have aX:∀n,cT .eql .ptr (.cq n) .db=I (.bool ad):=λ_=>rfl;refine bB FP ?_;have aZ:e5 f m=.cq (pM f (Ko f m) (Av m) (m.length:Nat) (gx f m.reverse)):=by rw[tP,vi]
 obtain⟨n,ab,ae,am,ak,a2,aG⟩:∃n,e5 f m=.cq n/\n.length=16/\(n.drop 6)[0]? =I (aa (m.length:Nat))/\n[0]? =I (.cq (hH f))/\(n.drop 7).length=9/\(n.drop 7).take 9=h0 (gx f m.reverse):=
  ⟨_,aZ,rfl,rfl,rfl,rfl,rfl⟩;rw[ab];refine es af aX ae am @aI.row.eq_1 ?_;apply aW<;>intro bc
 . omega
 refine oe af ae am ak a2 aG @Lv @adb ?_;have Q:kW f (gx f m.reverse) (r::m)=.cq (hH f)::.cq n::aa r.aR::aa r.aQ::aa r.er::aa r.dn::aa ((m.length:Int)+1)::h0 (gx f m.reverse):=by rw[kW,pM,ab];rfl
 rw[<-Q];have ap:∀L:Mem,mO (.box r.row::.box (kW f (gx f m.reverse) (r::m))::L) (.ptr 1 0) (kW f (gx f m.reverse) (r::m)):=λL=>mO.ptr rfl;have ao:∀L:Mem,b4 (L.length+2) L=U->b4 (L.length+2) (.box r.row::.box (kW f (gx f m.reverse) (r::m))::L)=U:=λL aO=>by simp[b4,au.under,cd,V.under,aI.row,Q,ade,aO]
 have av:=CI (ap []) (by rfl) (ao [] rfl) (by simp;omega);simp only[aI.row] at av;refine ch av ?_;rintro v N ⟨rfl,rfl⟩;rw[Q];refine ah ?_;have ar:∀x∈(r::m).reverse,x.wf:=by
  intro x E;rw[List.mem_reverse,fI] at E;rcases E with rfl|E
  . exact a7
  . exact a1 x E
 have a3:(r::m).reverse.length=m.length+1:=by simp
 have aD:∀i,i<m.length+1->gx f m.reverse i=fe f ((r::m).reverse.take i):=by intro i C;rw[gx,aF (by simp;omega),List.reverse_cons,List.take_append_of_le_length (by simp;omega)]
 have aY:e5 f (r::m)=.cq (.cq (hH f)::.cq n::aa r.aR::aa r.aQ::aa r.er::aa r.dn::aa ((m.length:Int)+1)::h0 (gx f (r::m).reverse)):=by rw[e5,pM,ab];rfl
 generalize bh:(r::m).reverse=l at*;generalize aT:gx f m.reverse=S at*;generalize bj:((m.length:Int)+1)=T at*;have bd:∀X,X=[au.box [aa r.aR,aa r.aQ,aa r.er,aa r.dn],.box (.cq (hH f)::.cq n::aa r.aR::aa r.aQ::aa r.er::aa r.dn::aa T::h0 S)]->X=X:=λ_ _=>rfl;refine d4 l.length (λi A a8=>∃b,kO f l (λt _=>t<i) b/\b<=9000000/\A=[.cq n,.ptr 1 0,.slice (l.map aI.row) .bF,aa b,aa l.length,aa i]/\
  a8=[.box [aa r.aR,aa r.aQ,aa r.er,aa r.dn],.box (.cq (hH f)::.cq n::aa r.aR::aa r.aQ::aa r.er::aa r.dn::aa T::h0 S)])
  ⟨-1,⟨.inl rfl,λ_ _ _ h=>aJ h (c9 _)⟩,J,by simp[cC,aE],rfl⟩ ?_ ?_;rotate_left
 . rintro A a8 ⟨b,u,z,rfl,rfl⟩;have aU:=u.done D J (λi p C _=>C);have a9:T=((m.length+1:Nat):Int):=J;have a_:=acn (.cq (hH f)) (.cq n) (aa r.aR) (aa r.aQ) (aa r.er) (aa r.dn) (aa ((m.length+1:Nat):Int)) S b (i:=m.length+1) J;subst a9;refine d0 @bV O a_ @Lv ?_;have aP:(λj=>if j=m.length+1 then b else S j)=gx f l:=by
    funext j;rcases Nat.lt_trichotomy j (m.length+1) with F|F|F
    . rw[ax J,aD j F,gx,aF J]
    . subst F;rw[aF rfl,aU,gx,aF J,<-a3,f_]
    . rw[ax J,<-aT,gx,gx,ax (by simp;omega),ax J]
   rw[aP,aY,Ti];exact⟨rfl,rfl,rfl,rfl⟩
 rintro i A a8 C aS ⟨b,u,z,rfl,rfl⟩;have bf:∀k,k<=4->iF k (.cq (hH f))=I (.eD ((hH f).drop k)):=λk a0=>by simp[iF,hH,a0]
 refine es aS af ae ak @hH.eq_1 ?_;refine d4 f.bU.length (λq A W=>∃b,kO f l (λt w=>t<i∨t=i/\w<q) b/\b<=9000000/\A=[.cq n,.ptr 1 0,.slice (l.map aI.row) .bF,aa b,aa i,aa l.length,aa i,.slice (f.bU.map cv.row) .bF,aa f.bU.length,aa q]/\
  W=[.box [aa r.aR,aa r.aQ,aa r.er,aa r.dn],.box (.cq (hH f)::.cq n::aa r.aR::aa r.aQ::aa r.er::aa r.dn::aa T::h0 S)])
  ⟨b,⟨u.t_,λt w s ba R=>u.tY t w s J R⟩,z,by simp[cC,aE],rfl⟩ ?_ ?_;rotate_left
 . rintro A W ⟨b,u,z,rfl,rfl⟩;refine aL @bV ?_;refine bE C ⟨b,⟨u.t_,λt w s ba R=>u.tY t w s ?_ R⟩,z,?_,rfl⟩
   . obtain⟨q,_,aM,_⟩:=R;have:=(az.1 aM).1;omega
   . simp only[cC,aE];rfl
 rintro q A W al a6 ⟨b,u,z,rfl,rfl⟩;obtain⟨y,P⟩:∃y,f.bU[q]? =I y:=⟨f.bU[q],by simp⟩;have aB:=bI P;have bi:=D.len;have aV:(part l i (l.length -1)).length<=maxLen:=by
  have a4:maxLen=9223372036854775807:=by rfl
  rw[J7 J];omega
 have Z:=aD i J;have H:∀t w,(t<i∨t=i/\w<q+1)->(t<i∨t=i/\w<q)∨(t=i/\w=q):=by intro t w h;omega
 obtain⟨Y,aA⟩:∃Y,∀M,eQ 4 (.slice (l.map aI.row) .bF) (I (aa (i:Int))) ag ag M=I (.slice ((l.drop i).map aI.row) Y):=⟨_,λM=>by rw[Ld 4 _ _ _ _ _ J (by rw[cz];omega) (pS (f:=aI.row) (λ_=>rfl) _),<-List.map_drop];rfl⟩;have a5:l.drop i=part l i (l.length -1):=by unfold part;rw[eS (by simp;omega)]
 rw[a5] at aA;have ai:=λa b c d e g h=>ada a b c d e g h S (i:=i) J;refine es a6 P @cv.row.eq_1 O ai ?_;apply aW<;>intro F
 . refine ah ?_;refine cN al rfl ⟨b,u.skip (i:=i) (p:=q) ?_ H,z,?_,rfl⟩
   . rintro s ⟨_,_,_,K,_⟩;rw[<-Z] at K;omega
   . simp only[cC,aE];rfl
 refine aL aA ?_;refine bG (Kp y (part l i (l.length -1)) Y (aq.1 y aB) (λx E=>ar x (J8 E)) aV) (ah ?_);apply cU<;>intro K
 . refine ah ?_;refine cN al rfl ⟨b,u.skip (i:=i) (p:=q) ?_ H,z,?_,rfl⟩
   . rintro s ⟨bl,_,B,_,G,_⟩;rw[P] at B;simp only[aC] at B;subst B;rw[K] at G;simp at G
   . simp only[cC,aE];rfl
 refine bN O ai ?_;have ay:=(D.p7 y aB).1;have bk:=BY (f:=f) (l:=l) (i:=i) ay D.hG.1;have an:0<=fe f (l.take i):=by rw[<-Z];omega
 have be:fe f (l.take i)<=8000000:=by obtain⟨d,aK,bb⟩:=AM an;have:=tE D _ _ aK;rw[fh] at this;omega
 have aj:pv f l i q (fe f (l.take i)+gy f y l i):=⟨y,C,P,an,K,rfl⟩;have aw:=CJ f y l .bF i aq D ay ar C (by have a4:maxLen=9223372036854775807:=rfl;omega) (ap [.box y.row]) (ao [.box y.row] rfl);simp only[Q,aI.row,cv.row] at aw;refine kc aw ?_;refine b6 O ai Z ?_;apply aW<;>intro B
 . refine ah ?_;refine cN al rfl ⟨_,u.take aj J (.inl B) H,J,?_,rfl⟩;simp only[cC,aE];rfl
 refine ah ?_;apply aW<;>intro G
 . refine ah ?_;refine cN al rfl ⟨_,u.take aj J (.inr G) H,J,?_,rfl⟩;simp only[cC,aE];rfl
 . refine ah ?_;refine cN al rfl ⟨b,u.cj aj B G H,z,?_,rfl⟩;simp only[cC,aE];rfl
def tr(v:V):Prop:=∃b:Bool,v=.bool b
def CG(T:Prop)(v:V):Prop:=∃b:Bool,v=.bool b/\(T->b=U)
structure hq where
 o8:Int
 aR:Int
 aY:Int
 sum:Int
 er:Nat
def hq.row(o:hq):List V:=[aa o.o8,aa o.aR,aa o.aY,aa o.sum,.int .u64 o.er]
def abw(o x:hq):bq aH 200 [.agg o.row,.agg x.row] tr:=by
 refine bB F0 (aL @hq.row.eq_1 ?_)
 repeat' (first|simp-implicitDefEqProofs (disch:=omega) only[go_sem]|apply aW<;>intro h)
 all_goals exact⟨_,rfl⟩
theorem ND(x:Nat):∃n,bq aH 216 [.int .u64 x] (λv=>v=aa n):=by
 have ae:∀(a:Int)(c:Nat),cT .shr .none (.int .u64 a) (.int .u64 c)=I (.int .u64 (a.fdiv (2^min c 64))):=λa c=>by show lT .shr .u64 a c=_;unfold lT;rw[h8];rfl
 have b:∀a:Int,cT .shr .none (.int .u64 a) (.int .u64 1)=I (.int .u64 (a.fdiv (2^min 1 64))):=λa=>ae a 1;have bP:∀a:Int,cT .shr .none (.int .u64 a) (.int .u64 2)=I (.int .u64 (a.fdiv (2^min 2 64))):=λa=>ae a 2;have f:∀a:Int,cT .shr .none (.int .u64 a) (.int .u64 4)=I (.int .u64 (a.fdiv (2^min 4 64))):=λa=>ae a 4;have g:∀a:Int,cT .shr .none (.int .u64 a) (.int .u64 8)=I (.int .u64 (a.fdiv (2^min 8 64))):=λa=>ae a 8;have d:∀a:Int,cT .shr .none (.int .u64 a) (.int .u64 16)=I (.int .u64 (a.fdiv (2^min 16 64))):=λa=>ae a 16;have e:∀a:Int,cT .shr .none (.int .u64 a) (.int .u64 32)=I (.int .u64 (a.fdiv (2^min 32 64))):=λa=>ae a 32;refine⟨?_,bB GX ?_⟩;rotate_left
 . simp-implicitDefEqProofs (disch:=omega) only[go_sem,b,bP,f,g,d,e];rfl
def vj(f:aN)(a:List aI)(c:a.length<=8):∃b,e5 f a=.cq b/\b.length=16/\b[0]? =I (.cq (hH f))/\(b.drop 3)[0]? =I (aa (Av a).aQ)/\(b.drop 6)[0]? =I (aa (a.length:Nat))/\(b.drop 7).length=9/\b.drop 7=h0 (gx f a.reverse)/\
 ((b.drop 7).drop (a.length*1))[0]? =I (aa (fe f a.reverse)):=
 ⟨_,by rw[tP,vi],rfl,rfl,rfl,rfl,rfl,rfl,by
   have ae:gx f a.reverse a.length=fe f a.reverse:=by rw[gx,aF (by simp),eS (by simp)]
   rw[<-ae];exact Lt _ J⟩
def Sz(f:aN)(d b:List aI)(w:d.length<=8)(al:b.length<=8):bq aH 198 [e5 f d,e5 f b] (CG (f.hG=0/\fe f d.reverse=0/\fe f b.reverse=0)):=by
 obtain⟨a,t,e,l,m,i,n,_,o⟩:=vj f d w;obtain⟨s,u,g,z,p,j,q,_,r⟩:=vj f b al;have k:∀a,kx (.cq a)=I (.cq a):=λ_=>rfl;have v:∀c:List V,(c.drop 2).drop 1=c.drop 3:=λc=>by rw[List.drop_drop]
 have x:(a.drop 2).length=14:=by rw[kJ,e]
 have y:(s.drop 2).length=14:=by rw[kJ,g]
 rw[t,u];refine bB FY (og k e i n o g j q r ?_)
 repeat' (first|simp-implicitDefEqProofs (disch:=omega) only[go_sem,k,e,l,m,i,x,v,g,p,j,y,hH]|apply aW<;>intro h)
 all_goals exact⟨_,rfl,λ⟨A,B,C⟩=>by first|rfl|(exfalso;omega)⟩
def acd(f:aN)(k:f.bU.length<=40):bq aH 197 [.cq (hH f),.cq (hH f)] (λv=>v=.bool U):=by
 have d:∀c,kx (.cq c)=I (.cq c):=λ_=>rfl;refine bB F2 (ah ?_);refine aam λb=>?_;refine ah ?_;apply dt<;>intro j
 . exact kF
 refine bN d @hH.eq_1 ?_;refine c6 f.bU (λi a N=>a=[.cq (hH f),.slice (f.bU.map cv.row) .bF,aa f.bU.length,aa i]/\N=[]) ⟨by simp[cC,aE,hH],rfl⟩ ?_ ?_;rotate_left
 . rintro a N ⟨rfl,rfl⟩;exact jy @bV
 rintro i p a N h g e ⟨rfl,rfl⟩;refine es e h d @hH.eq_1 @cv.row.eq_1 ?_;exact cN g rfl ⟨rfl,rfl⟩
def LH(f:aN)(ab:f.wf)(E:f.Ok)(g:List aI)(ak:∀x∈g,x.wf)(L:g.length<=8):
 bq aH 199 [e5 f g] (λv=>∃e:List hq,v=.slice (e.map hq.row) .bF/\e.length<=1000/\((∀p∈f.bU,p.aY<=1)->e=[])):=by
 obtain⟨q,W,u,T,_,ax,K,V,_⟩:=vj f g L;have C:∀q,kx (.cq q)=I (.cq q):=λ_=>rfl;have Q:=E.len;have al:∀x∈g.reverse,x.wf:=λx av=>ak x (List.mem_reverse.1 av);have O:=λM y=>CI (M:=M) (v:=e5 f g) (f:=f) (S:=gx f g.reverse) (by rw[tP];exact mO.cq _ _) (xf f g _) y L;have R:=λ(p:cv)(c:cg)(i:Nat)(s:0<=p.gf/\p.gf<=1000000)(o:i<g.reverse.length)(M:Mem)(y:b4 M.length M=U)=>
  CJ (M:=M) (v:=e5 f g) f p g.reverse c i ab E s al o (by have aK:maxLen=9223372036854775807:=rfl;rw[List.length_reverse];omega) (S:=gx f g.reverse) (rl:=g) (by rw[tP];exact mO.cq _ _) y;have aq:∀i,i<g.length->gx f g.reverse i=fe f (g.reverse.take i):=by
  intro i o;rw[gx,aF (by simp;omega)]
 have aG:g.reverse.length=g.length:=by simp
 rw[W] at O R⊢;generalize am:g.reverse=l at*;refine bB FW (ah ?_);refine ch (O _ rfl) ?_;rintro v N ⟨rfl,rfl⟩;refine ah ?_;refine d4 l.length (λi h N=>∃ver e,h=[.cq q,.an 0 ver 0 (e:List hq).length,.slice (l.map aI.row) .bF,aa l.length,aa i]/\N=[.aj 5 (e.map hq.row) ver 0]/\e.length<=i*f.bU.length/\((∀p∈f.bU,p.aY<=1)->e=[])) ⟨0,[],rfl,rfl,by simp,λ_=>rfl⟩ ?_ ?_;rotate_left
 . rintro h N ⟨ver,e,rfl,rfl,D,n⟩;have Y:l.length*f.bU.length<=8*16:=Nat.mul_le_mul J Q;have ar:(e.map hq.row).take e.length=e.map hq.row:=eS (by simp);refine bN @bV ar ?_;exact⟨e,rfl,J,n⟩
 rintro i h N o aS ⟨ver,e,rfl,rfl,D,n⟩;have aC:=aq i J;have A:=Lt (gx f l) (i:=i) J;rw[<-V] at A;refine es aS C u K A ?_;have aM:(i+1)*f.bU.length=i*f.bU.length+f.bU.length:=by rw[gZ,Nat.one_mul]
 have Y:i*f.bU.length<=8*16:=Nat.mul_le_mul J Q;apply aW<;>intro ay
 . refine ah ?_;exact bE o ⟨ver,e,rfl,rfl,J,n⟩
 obtain⟨w,ap⟩:∃w,∀M,eQ 4 (.slice (l.map aI.row) .bF) (I (aa (i:Int))) ag ag M=I (.slice ((l.drop i).map aI.row) w):=⟨_,λM=>by rw[Ld 4 _ _ _ _ _ J (by rw[cz];omega) (pS (f:=aI.row) (λ_=>rfl) _),<-List.map_drop];rfl⟩;refine aL ap ?_;have aD:(l.drop i).length=l.length -i:=kJ;refine c6 (l.drop i) (λj h N=>∃z m:Nat,h=[.cq q,.an 0 ver 0 e.length,.slice (l.map aI.row) .bF,aa i,.int .u64 z,.int .u64 m,aa l.length,aa i,.slice ((l.drop i).map aI.row) w,aa (l.drop i).length,aa j]/\N=[.aj 5 (e.map hq.row) ver 0]/\z<18446744073709551616/\m<18446744073709551616) ⟨0,0,rfl,rfl,J,J⟩ ?_ ?_
 . rintro j r h N F ae af ⟨z,m,rfl,rfl,G,H⟩;simp-implicitDefEqProofs (disch:=omega) only[go_sem,af,F,aI.row,uX,vJ _ _ G (qy _),vJ _ _ H (qy _)];exact cN ae rfl ⟨_,_,rfl,rfl,vK _ _ G (qy _),vK _ _ H (qy _)⟩
 rintro h N ⟨z,m,rfl,rfl,G,H⟩;refine es @bV C u T @hH.eq_1 ?_;refine c6 f.bU (λk h N=>∃ver e,h=[.cq q,.an 0 ver 0 (e:List hq).length,.slice (l.map aI.row) .bF,aa i,.int .u64 z,.int .u64 m,aa l.length,aa i,.slice (f.bU.map cv.row) .bF,aa f.bU.length,aa k]/\N=[.aj 5 (e.map hq.row) ver 0]/\e.length<=i*f.bU.length+k/\((∀p∈f.bU,p.aY<=1)->e=[])) ⟨ver,e,rfl,rfl,J,n⟩ ?_ ?_;rotate_left
 . rintro h N ⟨ver,e,rfl,rfl,D,n⟩;refine aL @bV ?_;exact bE o ⟨ver,e,rfl,rfl,J,n⟩
 rintro k p h N s t ai ⟨ver,e,rfl,rfl,D,n⟩;obtain⟨r,F⟩:∃r,l[i]? =I r:=⟨l[i],by simp⟩;obtain⟨ew,Z⟩:=ND z;have ao:=(E.p7 p (bI s)).1;refine b6 ai s @cv.row.eq_1 ?_;apply cF<;>intro az
 . refine ah ?_;exact cN t rfl ⟨ver,e,rfl,rfl,J,n⟩
 refine ah ?_;refine nO Z (ah ?_);apply cF<;>intro aA
 . refine ah ?_;exact cN t rfl ⟨ver,e,rfl,rfl,J,n⟩
 refine aL @uX ?_;apply cF<;>intro aB
 . refine ah ?_;exact cN t rfl ⟨ver,e,rfl,rfl,J,n⟩
 refine he F @aI.row.eq_1 C u K A ?_;have P:=R p .bF i ao o [.aj 5 (e.map hq.row) ver 0,.box p.row] rfl;simp only[cv.row] at P;refine R1 P ?_;have X:∀(a b c d:Int)(B:au),cw ad 5 40 (.an 0 ver 0 e.length) (.slice [[aa a,aa b,aa c,aa d,.int .u64 z]] .full) [.aj 5 (e.map hq.row) ver 0,B]=I (.an 0 (ver+1) 0 (e.length+1),[.aj 5 ((e++[(⟨a,b,c,d,z⟩:hq)]).map hq.row) (ver+1) 0,B]):=λa b c d B=>by rw[iL];exact md (r:=hq.row ⟨a,b,c,d,z⟩) rfl (by simp) rfl J
 refine aL X ?_;exact cN t rfl ⟨ver+1,e++[_],by simp only[cC,aE,b0];rfl,rfl,by simp;omega,λaw=>aJ (aw p (bI s)) (by have:=am▸o;omega)⟩
def tg(f:aN)(a b:List aI):Prop:=(∀p∈f.bU,p.aY<=1)/\f.hG=0/\fe f a.reverse=0/\fe f b.reverse=0
def M2(f:aN)(w:f.wf)(n:f.Ok)(d c:List aI)(O:∀x∈d,x.wf)(m:d.length<=8)(al:∀x∈c,x.wf)(p:c.length<=8):
 bq aH 165 [e5 f d,e5 f c] (CG (tg f d c)):=by
 have G:=acd f (by have:=n.len;omega);have t:=Sz f d c m p;have k:=LH f w n d O m;have u:=LH f w n c al p;obtain⟨g,r,D,E,_⟩:=vj f d m;obtain⟨S,s,F,q,_⟩:=vj f c p;have P:∀g,kx (.cq g)=I (.cq g):=λ_=>rfl;have L:∀g,cT .eql .ptr (.cq g) .db=I (.bool ad):=λ_=>rfl;rw[r,s] at t⊢;rw[r] at k;rw[s] at u;refine bB FN (he P L D E F q ?_);refine d2 G ?_;rintro v rfl;refine ah ?_;refine d2 t ?_;rintro v ⟨q,rfl,K⟩;refine ah ?_;apply cU<;>intro h
 . refine ah ?_;exact⟨_,rfl,λz=>by rw[K z.2] at h;cases h⟩
 refine ah ?_;refine d2 k ?_;rintro v ⟨A,rfl,T,V⟩;refine ah ?_;refine d2 u ?_;rintro v ⟨B,rfl,W,H⟩;refine ah ?_;refine c6 B (λi e N=>e=[.slice (A.map hq.row) .bF,.slice (B.map hq.row) .bF,aa B.length,aa i]/\N=[]) ⟨rfl,rfl⟩ ?_ ?_;rotate_left
 . rintro e N ⟨rfl,rfl⟩;refine aL @bV ?_;exact⟨_,rfl,λ_=>rfl⟩
 rintro i o e N Q l aS ⟨rfl,rfl⟩;refine b6 aS Q @hq.row.eq_1 ?_;refine c6 A (λj e N=>∃b:Bool,e=[.slice (A.map hq.row) .bF,.ptr 0 0,.bool b,.slice (B.map hq.row) .bF,aa B.length,aa i,.slice (A.map hq.row) .bF,aa A.length,aa j]/\N=[.box o.row]) ⟨ad,rfl,rfl⟩ ?_ ?_
 . rintro j a e N J y M ⟨b,rfl,rfl⟩;have C:=abw a o;simp only[hq.row] at C;refine b6 M J @hq.row.eq_1 ?_;apply dt<;>intro k
   . refine ah ?_;exact cN y rfl ⟨_,rfl,rfl⟩
   refine ah ?_;refine d2 C ?_;rintro v ⟨R,rfl⟩;refine ah ?_;exact cN y rfl ⟨_,rfl,rfl⟩
 rintro e N ⟨b,rfl,rfl⟩;refine aL @bV ?_;apply dt<;>intro k
 . refine ah ?_;exact cN l rfl ⟨rfl,rfl⟩
 . refine ah ?_;exact⟨_,rfl,λz=>by rw[H z.1] at l;cases l⟩
structure bm where
 a:Int
 b:Int
 c:Int
 d:Int
 deriving DecidableEq
def bm.row(v:bm):List V:=[aa v.a,aa v.b,aa v.c,aa v.d]
def bm.at(v:bm):Nat->Int
 |0=>v.a
 |1=>v.b
 |2=>v.c
 |_=>v.d
def iE(a b:bm):Bool:=decide (a.a<=b.a)&&(decide (a.b<=b.b)&&(decide (a.c<=b.c)&&decide (a.d<=b.d)))
def pW(a b:bm):iE a b=U↔∀k,k<4->a.at k<=b.at k:=by
 simp only[iE,bL,cZ];constructor
 . rintro⟨c,d,e,f⟩ k g;have:k=0∨k=1∨k=2∨k=3:=J;rcases this with rfl|rfl|rfl|rfl<;>assumption
 . intro h;exact⟨h 0 J,h 1 J,h 2 J,h 3 J⟩
theorem bm.uj(v:bm){i:Nat}(h:i<4):v.row[i*1]? =I (aa (v.at i)):=by have:i=0∨i=1∨i=2∨i=3:=J;rcases this with rfl|rfl|rfl|rfl<;>rfl
def xl(id i:Nat)(a:i<4):mo 4 1 (.ptr id 0) (aa (i:Int))=I (.ptr id (i*1)):=by simp only[mo,be (show 0<=(i:Int) by omega),be (show(i:Int)<((4:Nat):Int) by omega),cR,bi,dU,iF,dm]
def Qt(a b:bm):bq aH 203 [.agg a.row,.agg b.row] (λv=>v=.bool (iE a b)):=by
 refine bB G7 (aL @bm.row.eq_1 ?_);refine d4 4 (λi d M=>(∀k,k<i->a.at k<=b.at k)/\d=[.ptr 0 0,.ptr 1 0,aa i]/\M=[.box a.row,.box b.row]) ⟨λk e=>aJ e (c9 k),rfl,rfl⟩ ?_ ?_;rotate_left
 . rintro d M ⟨h,rfl,rfl⟩;have j:decide (((4:Nat):Int)<4)=ad:=rfl;refine aL j ?_;exact((pW a b).2 h).symm
 rintro i d M c aS ⟨h,rfl,rfl⟩;have f:=a.uj c;have jN:=b.uj c;have aS:decide ((i:Int)<4)=U:=aS;simp-implicitDefEqProofs (disch:=omega) only[go_sem,aS,xl _ _ c,f,jN];apply aW<;>intro m
 . refine ah ?_;symm;rw[Bool.eq_false_iff];intro g;have:=(pW a b).1 g i c;omega
 . refine ah ?_;refine bE c ⟨λk e=>?_,rfl,rfl⟩;by_cases l:k=i
   . subst l;omega
   . exact h k J
def qX(a b:bm):Bool:=decide (a≠b)&&iE a b
def B5(a b:bm):(decide (a.a=b.a)&&(decide (a.b=b.b)&&(decide (a.c=b.c)&&decide (a.d=b.d))))=decide (a=b):=by cases a;cases b;simp only[bm.mk.injEq];rw[Bool.eq_iff_iff];simp
def aag(a b:bm):bq aH 173 [.agg a.row,.agg b.row] (λv=>v=.bool (qX a b)):=by
 have c:=Qt a b;simp only[bm.row] at c;refine bB G3 (bN @bm.row.eq_1 @B5 ?_);apply aW<;>intro h
 . refine ah ?_;simp[qX,h]
 . refine ah ?_;refine bG c (ah ?_);simp[qX,h]
def lB(a b:bm):Int:=if a.at 0≠b.at 0 then(if a.at 0<b.at 0 then-1 else 1) else if a.at 1≠b.at 1 then(if a.at 1<b.at 1 then-1 else 1) else if a.at 2≠b.at 2 then(if a.at 2<b.at 2 then-1 else 1) else if a.at 3≠b.at 3 then(if a.at 3<b.at 3 then-1 else 1) else 0
def zy{a b:bm}{i:Nat}(d:i<4)(h:∀k,k<i->a.at k=b.at k)(c:a.at i≠b.at i):lB a b=if a.at i<b.at i then-1 else 1:=by
 have:i=0∨i=1∨i=2∨i=3:=J;unfold lB;rcases this with rfl|rfl|rfl|rfl
 . rw[aF c]
 . rw[ax (λe=>e (h 0 J)),aF c]
 . rw[ax (λe=>e (h 0 J)),ax (λe=>e (h 1 J)),aF c]
 . rw[ax (λe=>e (h 0 J)),ax (λe=>e (h 1 J)),ax (λe=>e (h 2 J)),aF c]
theorem ad0{a b:bm}(h:∀k,k<4->a.at k=b.at k):a=b:=by cases a;cases b;have c:=h 0 J;have d:=h 1 J;have e:=h 2 J;have f:=h 3 J;simp only[bm.at] at c d e f;subst c d e f;rfl
def MX(a b:bm):bq aH 174 [.agg a.row,.agg b.row] (λv=>v=aa (lB a b)):=by
 refine bB GZ (bN @bm.row.eq_1 @B5 ?_);apply aW<;>intro h
 . refine ah ?_;subst h;simp[lB]
 refine ah ?_;refine d4 4 (λi e M=>(∀k,k<i->a.at k=b.at k)/\e=[.ptr 0 0,.ptr 1 0,aa i]/\M=[.box a.row,.box b.row]) ⟨λk g=>aJ g (c9 k),rfl,rfl⟩ ?_ ?_;rotate_left
 . rintro e M ⟨d,rfl,rfl⟩;exact aJ (ad0 d) h
 rintro i e M c aS ⟨h,rfl,rfl⟩;have f:=a.uj c;have jN:=b.uj c;have aS:decide ((i:Int)<4)=U:=aS;simp-implicitDefEqProofs (disch:=omega) only[go_sem,aS,xl _ _ c,f,jN];apply aW<;>intro d
 . refine ah ?_;rw[zy c h J,aF d]
 simp-implicitDefEqProofs (disch:=omega) only[go_sem,xl _ _ c,f,jN];apply aW<;>intro l
 . refine ah ?_;rw[zy c h J,ax d]
 . refine ah ?_;refine bE c ⟨λk g=>?_,rfl,rfl⟩;by_cases j:k=i
   . subst j;omega
   . exact h k J
def J5(l:List bm)(c:cg)(v:bm)(y:l.length<=1000000000000):bq aH 172 [.slice (l.map bm.row) c,.agg v.row] (λx=>x=.bool (l.any λw=>iE w v)):=by
 refine bB G1 (aL @bm.row.eq_1 ?_);refine⟨λ_ _ _=>False,?_,λ_ _ _ h=>h.elim⟩;refine ah ?_;refine c6 l (λi b M=>((l.take i).any λw=>iE w v)=ad/\b=[.ptr 0 0,.bool ad,.slice (l.map bm.row) c,aa l.length,aa i]/\M=[.box v.row]) ⟨rfl,rfl,rfl⟩ ?_ ?_;rotate_left
 . rintro b M ⟨h,rfl,rfl⟩;rw[f_] at h;refine aL @bV ?_;exact h.symm
 rintro i w b M e q aS ⟨h,rfl,rfl⟩;have s:((l.take (i+1)).any λw=>iE w v)=iE w v:=by rw[gM,e,List.any_append,h];simp
 have n:iE w v=U->(l.any λw=>iE w v)=U:=λh=>List.any_eq_true.2 ⟨w,bI e,h⟩;refine b6 aS e @bm.row.eq_1 ?_;refine d4 4 (λk b M=>(∀j,j<k->w.at j<=v.at j)/\b=[.ptr 0 0,.bool ad,.ptr 1 0,.slice (l.map bm.row) c,aa l.length,aa i,aa k]/\M=[.box v.row,.box w.row]) ⟨λk a=>aJ a (c9 k),rfl,rfl⟩ ?_ ?_;rotate_left
 . rintro b M ⟨h,rfl,rfl⟩;have o:decide (((4:Nat):Int)<4)=ad:=rfl;refine aL o ?_;exact(n ((pW w v).2 h)).symm
 rintro k b M a d ⟨m,rfl,rfl⟩;have f:=w.uj a;have jN:=v.uj a;have d:decide ((k:Int)<4)=U:=d;simp-implicitDefEqProofs (disch:=omega) only[go_sem,d,xl _ _ a,f,jN];apply aW<;>intro t
 . have p:iE w v=ad:=by
    rw[Bool.eq_false_iff];intro g;have:=(pW w v).1 g k a;omega
   refine ah ?_;exact cN q rfl ⟨by rw[s,p],rfl,rfl⟩
 . refine ah ?_;refine bE a ⟨λj u=>?_,rfl,rfl⟩;by_cases r:j=k
   . subst r;omega
   . exact m j J
def X6{w b:World}{Γ c:Env}{v:V}{a:Value}(ae:v.xm=U)(h:a_ w Γ v a):a_ b c v a:=by
 cases h<;>simp[V.xm] at ae
 . exact .bool _
 . exact .int _ _
 . exact .str _
 . exact .db
 . exact .ff
 . exact .hY
def RZ{f:Nat}{args k:List V}{R:V->Prop}{M:Mem}{K:V->Mem->Prop}(h:bq aH f k R)(N:eO (cY M 0 20) args=I k)(Y:cd 0 k=U)(ae:∀v,R v->v.xm=U)(W:∀v,R v->K v M):bx aH f args M K:=by
 refine⟨h.1,λw Γ z a C=>?_⟩;obtain⟨c,Q⟩:=vz N;let d:Env:=⟨w.heap.size,[],(Γ.hJ w 0).S⟩
 have P:Good w d []:=⟨rfl,λi l B c=>by simp[d] at c,λi l c=>by simp[d] at c,λi j l af c=>by simp[d] at c,λb o ae=>by
  rcases ae with ae|⟨_,_,_,_,_,_,g⟩
  . exact a.hx b o ae
  . exact g,bk _,λm r=>a.mH m (r.mono a.bf)⟩;have J:dz w d k z:=⟨by rw[C.1,c],λj y D=>by
  obtain⟨x,Z,aa⟩:=Q j y D;exact a_.move (n:=0) (w:=w) (Γ:=Γ.hJ w 0) (Γ':=d) (w':=w) (λb o ae=>⟨ae,rfl⟩) (λi T=>aJ T (c9 i)) (Iy a 20 (C.2 j x Z) aa) (rs Y j y D)⟩;refine(h.2 w d z P J).mono ?_;rintro e m ⟨v,F,Γ0,ab,L,⟨A,H,_⟩,X,O,u⟩;subst H;have t:Go.RowKit.Below w.heap.size w m:=u.below;let E:Env:=⟨Γ.hl,Γ.cf,λb q=>Γ0.S b q/\(b<w.heap.size->Γ.S b q)⟩
 have p:Ext w Γ m E:=⟨λb q ae=>⟨⟨(u.s b q (Or.inl ae)).1,λ_=>ae⟩,(u.s b q (Or.inl ae)).2⟩,λi l c=>⟨l,c,bk _,λ_=>rfl,λ_=>rfl⟩,rfl,t.mono a.bf,λb q r ae=>ae.2 (Nat.lt_of_lt_of_le r a.bf)⟩;refine⟨v,F,E,M,L,W v A,X6 (ae v A) X,?_,p⟩;exact⟨a.len,λi l B c G=>(a.dI i l B c G).cj p (λg=>t.block _ (a.j0 c g)) (λg q ae=>ae.2 (a.j0 c g)),a.ek,a.inj,λb q ae=>O.hx b q ae.1,fJ a.bf t.size,a.rn p⟩
def R0{f:Nat}{args a:List V}{v:V}{M:Mem}{K:V->Mem->Prop}(h:bq aH f a (λx=>x=v))(c:eO (cY M 0 20) args=I a)(e:cd 0 a=U)(ae:v.xm=U)(d:K v M):@nA aH f args M ⟨K⟩:=
 RZ h c e (λx b=>by rw[b];exact ae) λx b=>by rw[b];exact d
def ib(v:bm)(l:List bm):List bm:=l.filter λw=>!qX v w
def my(v:bm)(l:List bm):List bm:=l.takeWhile λw=>decide (lB w v<0)
def mG(v:bm)(l:List bm):List bm:=l.dropWhile λw=>decide (lB w v<0)
def js(l:List bm)(v:bm):List bm:=if(l.any λw=>iE w v)=U then l else my v (ib v l)++v::mG v (ib v l)
def jM(l:List bm):List bm:=l.foldl js []
def qn(M:Mem)(x:V)(l:List bm):Prop:=(x=.slice [] .nil/\l=[])∨∃b ver,x=.an b ver 0 l.length/\M[b]? =I (.aj 4 (l.map bm.row) ver 0)/\0<l.length
theorem Cn{M:Mem}{x:V}{l:List bm}(h:qn M x l)(v:bm):∃c,eO (cY M 0 20) [x,.agg v.row]=I [.slice (l.map bm.row) c,.agg v.row]:=by
 rcases h with⟨rfl,rfl⟩|⟨b,ver,rfl,d,_⟩
 . exact⟨.nil,rfl⟩
 . refine⟨.bF,?_⟩;have a:cY M 0 20 (.an b ver 0 l.length)=I (.slice (l.map bm.row) .bF):=by
    have e:decide (0+l.length<=(l.map bm.row).length)=U:=be (by simp);simp only[cY,d,decide_eq_false (c9 b),eE,beq_self_eq_true,e,cR,bi,hN,eS (Nat.le_of_eq (cz bm.row):(l.map bm.row).length<=l.length)]
   simp only[eO,a];rfl
def Jh(zero:List V)(a bytes n:Nat)(M:Mem)(h:n<=1000000000000)(g:bytes<=100):jq zero a bytes (aa (n:Int)) (aa (n:Int)) M=I (.an M.length 0 0 n,M++[.aj a (d_ n zero) 0 0]):=by have f:(n:Int)*(bytes:Int)<=1000000000000*100:=Int.mul_le_mul J J J J;have b:decide (0<=(n:Int))=U:=bR;have c:decide ((n:Int)<=(n:Int))=U:=bR;have d:decide ((n:Int)*(bytes:Int)<=2^48)=U:=bR;have e:decide ((n:Int)<2^62)=U:=bR;simp only[jq,b,c,d,e,dU,cR,bi]
theorem A5:∀(a b c:List (List V)),b.length=c.length->iI (a++b) a.length c=a++c
 |a,[],[],_=>by simp[iI]
 |a,x::b,y::c,h=>by
  have e:(a++x::b).set a.length y=(a++[y])++b:=by rw[l1,ax J,hA];simp
  rw[iI,e,show a.length+1=(a++[y]).length by simp,A5 (a++[y]) b c (by simpa using h)];simp
def yB{M:Mem}{x:V}{l:List bm}(h:qn M x l)(L:Mem):qn (M++L) x l:=by
 rcases h with h|⟨b,ver,a,c,d⟩
 . exact .inl h
 . exact .inr ⟨b,ver,a,a0 c L,d⟩
def Bb(v:bm)(l:List bm):(ib v l).length<=l.length:=lZ _ _
def vM(v:bm)(l:List bm):my v l++mG v l=l:=List.takeWhile_append_dropWhile
def aaM{M:Mem}{b ver:Nat}{R:List (List V)}{k:List bm}{v:bm}{a:Nat}(d:M[b]? =I (.aj 4 R ver 0))(g:M[a]? =I (.box v.row))(ai:k.length<=1000000000000)(af:0<R.length)(o:R.take k.length=k.map bm.row)(ab:k.length<=R.length)(s:av)
 (C:aE s 0=.an b ver 0 R.length)(D:aE s 3=.ptr a 0)(E:aE s 5=aa k.length)(F:aE s 8=aa (my v k).length):
 ck aH Dz (iT xd.results (k1 λr x=>qn x r (my v k++v::mG v k))) s M:=by
 have n:=vM v k;have ak:(my v k).length+(mG v k).length=k.length:=by rw[<-b0,n]
 generalize my v k=T at*;generalize mG v k=S at*;have H:R.take T.length=T.map bm.row:=by rw[show R.take T.length=(R.take k.length).take T.length by rw[List.take_take,Nat.min_eq_left J],o,<-n];simp
 have G:(R.drop T.length).take S.length=S.map bm.row:=by rw[show(R.drop T.length).take S.length=(R.take k.length).drop T.length by rw[List.drop_take,show k.length -T.length=S.length by omega],o,<-n];simp
 have P:(k.length:Int) -(T.length:Int)=(S.length:Nat):=J;have N:b<M.length:=(az.1 d).1;have al:a<M.length:=(az.1 g).1;have ae:=λzero=>Jh zero 4 32 S.length M J J;have l:=λL=>a0 d L;have ah:∀L,eQ 4 (.an b ver 0 R.length) (I (aa (T.length:Nat))) (I (aa (k.length:Nat))) ag (M++L)=I (.an b ver T.length S.length):=λL=>by have c:decide (0<=(T.length:Int))=U:=bR;have i:decide (0<=(k.length:Int))=U:=bR;have j:decide (T.length<=k.length)=U:=bR;have y:decide (k.length<=R.length)=U:=be ab;simp only[eQ,l,gE,c,i,j,y,bi,dU,beq_self_eq_true,dm,bk,decide_true,cR];rw[show k.length -T.length=S.length by omega]
 have Q:kr 4 (.an M.length 0 0 S.length) (.an b ver T.length S.length) (M++[.aj 4 (d_ S.length [V.int .i64 0,v0,v0,v0]) 0 0])=I (aa (min S.length (S.map bm.row).length:Nat),M++[.aj 4 (S.map bm.row) 0 0]):=by have c:decide (T.length+S.length<=R.length)=U:=bR;have t:=A5 [] (d_ S.length [V.int .i64 0,v0,v0,v0]) (S.map bm.row) (by simp);simp only[eH,eu] at t;simp only[kr,dg,l,beq_self_eq_true,c,cR,bi,G,List.getElem?_concat_length,dm,List.length_replicate,bk,decide_true,yb,t];simp
 have Y:sM 4 (.an b ver 0 R.length) (aa (T.length:Nat)) (aa (T.length:Nat)) (M++[.aj 4 (S.map bm.row) 0 0])=I (.slice (T.map bm.row) .full,M.set b (.aj 4 R ver (max 0 T.length))++[.aj 4 (S.map bm.row) 0 0]):=by have c:decide (0<=(T.length:Int))=U:=bR;have i:decide (T.length<=R.length)=U:=bR;have j:decide (0<R.length)=U:=be af;simp only[sM,l,beq_self_eq_true,bk,decide_true,c,i,j,cR,bi,dU,H,kh N]
 have O:b≠a:=λh=>by rw[h,g] at d;cases d
 have w:∀X L,(M.set b X++L)[a]? =I (.box v.row):=λX L=>a0 (by rw[bo O];exact g) L;have u:∀L,(M++L)[a]? =I (.box v.row):=λL=>a0 g L;have p:cw ad 4 32 (.slice (T.map bm.row) .full) (.slice [v.row] .full) (M.set b (.aj 4 R ver (max 0 T.length))++[.aj 4 (S.map bm.row) 0 0])=I (.an (M.length+1) 0 0 (T.length+1),M.set b (.aj 4 R ver (max 0 T.length))++[.aj 4 (S.map bm.row) 0 0,.aj 4 (T.map bm.row++[v.row]) 0 0]):=by have Z:dP 4 (T.map bm.row)=U:=pS (f:=bm.row) (λ_=>rfl) T;have m:decide ((T.length+1)*(2*32)<=2^48)=U:=bR;have W:decide (cg.full=cg.nil)=ad:=rfl;simp only[cw,dg,IM,Z,bm.row,cc,eu,dm,beq_self_eq_true,bi,eU,W,decide_true,Bool.or_true,cz,m,cR,b0,cW,cS,fG,eH]
 have q:cw ad 4 32 (.an (M.length+1) 0 0 (T.length+1)) (.an M.length 0 0 S.length) (M.set b (.aj 4 R ver (max 0 T.length))++[.aj 4 (S.map bm.row) 0 0,.aj 4 (T.map bm.row++[v.row]) 0 0])=I (.an (M.length+1) 1 0 (T.length+1+S.length),M.set b (.aj 4 R ver (max 0 T.length))++[.aj 4 (S.map bm.row) 0 0,.aj 4 (T.map bm.row++[v.row]++S.map bm.row) 1 0]):=by have m:decide ((T.length+1+S.length)*(2*32)<=2^48)=U:=bR;have e:(M.set b (.aj 4 R ver (max 0 T.length))).length=M.length:=cW;generalize M.set b (.aj 4 R ver (max 0 T.length))=K at e⊢;rw[<-e];have z:(K++[au.aj 4 (S.map bm.row) 0 0,au.aj 4 (T.map bm.row++[v.row]) 0 0])[K.length]? =I (au.aj 4 (S.map bm.row) 0 0):=cE K _;have A:(K++[au.aj 4 (S.map bm.row) 0 0,au.aj 4 (T.map bm.row++[v.row]) 0 0])[K.length+1]? =I (au.aj 4 (T.map bm.row++[v.row]) 0 0):=fW K _ 1;have B:∀X,(K++[au.aj 4 (S.map bm.row) 0 0,au.aj 4 (T.map bm.row++[v.row]) 0 0]).set (K.length+1) X=K++[au.aj 4 (S.map bm.row) 0 0,X]:=λX=>ju K _ 1 X;simp only[cw,dg,z,beq_self_eq_true,dm,cz,bk,decide_true,cR,bi,hN,yb,eU,A,b0,cc,eu,m,B]
 simp only[bm.row] at u w p q;simp-implicitDefEqProofs (disch:=omega) only[go_sem,↓aX 44,↓aX 46,↓aX 48,↓aX 49,↓aX 50,↓aX 51,C,D,E,F,P,ae,ah,Q,Y,u,w,p,q];refine .inr ⟨M.length+1,1,?_,?_,by simp;omega⟩
 . rw[b0,cc,show T.length+1+S.length=T.length+(S.length+1) by omega]
 . have e:(M.set b (.aj 4 R ver (max 0 T.length))).length=M.length:=cW;rw[<-e,fW];simp[bm.row]
def aaN{M:Mem}{b ver:Nat}{R:List (List V)}{k:List bm}{v:bm}{m:Nat}(e:M[b]? =I (.aj 4 R ver 0))(d:M[m]? =I (.box v.row))(B:k.length<=1000000000000)(E:0<R.length)(o:R.take k.length=k.map bm.row)(C:k.length<=R.length)(s:av)
 (x:aE s 0=.an b ver 0 R.length)(y:aE s 3=.ptr m 0)(z:aE s 5=aa k.length):
 ck aH DA (iT xd.results (k1 λr u=>qn u r (my v k++v::mG v k))) s M:=by
 have q:=aaM e d B E o C;have j:=vM v k;have O:(my v k).length+(mG v k).length=k.length:=by rw[<-b0,j]
 have F:∀w∈my v k,lB w v<0:=λw a=>of_decide_eq_true (List.all_eq_true.1 (List.all_takeWhile (p:=λw=>decide (lB w v<0)) (l:=k)) w a);have H:∀w,(mG v k)[0]? =I w->¬lB w v<0:=λw a=>by have:=List.head?_dropWhile_not (λw=>decide (lB w v<0)) k;rw[List.head?_eq_getElem?,show k.dropWhile (λw=>decide (lB w v<0))=mG v k from rfl,a] at this;simpa using this
 have G:∀(i:Nat)(w:bm),k[i]? =I w->R[i]? =I w.row:=λi w a=>by have c:=(az.1 a).1;rw[<-fT c,o,dK,a];rfl
 have t:∀i:Nat,i<R.length->d8 4 (.an b ver 0 R.length) (aa (i:Int)) M=I (.df b ver i 0):=λi c=>by simp only[d8,be (show 0<=(i:Int) by omega),bi,e,beq_self_eq_true,dU,be c,dm,bk,decide_true,cR]
 have h:∀(i:Nat)(w:bm),k[i]? =I w->dZ 4 U (.df b ver i 0) M=I (.agg w.row):=λi w a=>by simp only[dZ,e,beq_self_eq_true,bi,G i w a];rfl
 have f:=λw=>MX w v;generalize my v k=T at*;generalize mG v k=S at*;simp only[bm.row] at h d f;refine lk (aX 53) x y z ?_;refine d4 T.length (λi n N=>n=[.an b ver 0 R.length,.ptr m 0,aa k.length,aa i]/\N=M) ⟨rfl,rfl⟩ ?_ ?_;rotate_left
 . rintro n N ⟨rfl,rfl⟩;refine ah ?_;apply aW<;>intro g
   . obtain⟨w,a⟩:∃w,k[T.length]? =I w:=⟨k[T.length]'J,by simp⟩;have K:S[0]? =I w:=by rw[<-j,fH (bk _),hA] at a;exact a
     refine b6 (t T.length J) (h _ w a) d ?_;refine bG (f w) (aL (decide_eq_false (H w K)) ?_);exact q _ rfl rfl rfl rfl
   . refine ah ?_;exact q _ rfl rfl rfl rfl
 rintro i n N c aS ⟨rfl,rfl⟩;obtain⟨w,a⟩:∃w,k[i]? =I w:=⟨k[i]'J,by simp⟩;have L:w∈T:=bI (show T[i]? =I w by rw[<-j,et c] at a;exact a);have D:=F w L;have A:decide ((i:Int)<(k.length:Int))=U:=bR;refine d0 A (t i J) (h i w a) d ?_;refine bG (f w) (aL (be D) ?_);exact bE c ⟨rfl,rfl⟩
def Nc{M:Mem}{x:V}{l:List bm}{v:bm}(h:qn M x l)(ak:l.length<=1000000000000):bx aH 145 [x,.agg v.row] M (λr Q=>qn Q r (js l v)):=by
 obtain⟨c,aA⟩:=Cn h v;refine dX G8 ?_;have q:∀(K:Mem)(B:au),(K++[B])[K.length]? =I B:=λK B=>by simp
 have W:∀(K:Mem)(B X:au),(K++[B]).set K.length X=K++[X]:=λK B X=>by simp
 have p:=J5 l c v J;simp only[bm.row] at p;have o:=Cn (yB h [.box v.row]) v;simp only[dN];simp only[bm.row] at o;refine bN @bm.row.eq_1 q ?_;obtain⟨c,o⟩:=o;have p:=J5 l c v ak;simp only[bm.row] at p;refine R0 p o rfl rfl ?_;refine ah ?_;apply dt<;>intro g
 . refine ah ?_;rw[js,aF g];exact yB h _
 have am:js l v=my v (ib v l)++v::mG v (ib v l):=by rw[js,ax (by rw[g];simp)]
 rw[am];rcases h with⟨rfl,rfl⟩|⟨b,ver,rfl,E,aC⟩
 . have aB:decide (((0:Nat):Int)<((0:Nat):Int))=ad:=rfl;have al:=λzero N=>Jh zero 4 32 0 N J J;refine ah ?_;refine d4 0 (λi a N=>a=[.slice [] .nil,.ptr M.length 0,v0,.slice [] .nil,aa ((0:Nat):Int),v0]/\N=M++[.box v.row]) ⟨rfl,rfl⟩ (λi _ _ k=>aJ k (c9 i)) ?_;rintro a N ⟨rfl,rfl⟩;refine ah ?_;refine aW (λg=>aJ g (by decide)) (λg=>?_);refine d4 0 (λi a N=>a=[.slice [] .nil,.ptr M.length 0,v0,v0]/\N=M++[.box v.row]) ⟨rfl,rfl⟩ (λi _ _ k=>aJ k (c9 i)) ?_;rintro a N ⟨rfl,rfl⟩;refine ah ?_;refine aW (λg=>aJ g (by decide)) (λg=>?_);have ao:∀N,sM 4 (.slice [] .nil) v0 v0 N=I (.slice [] .nil,N):=λN=>rfl;have ap:∀N,eQ 4 (.slice [] .nil) (I v0) (I v0) ag N=I (.slice [] .nil):=λN=>rfl;have ar:((0:Int) -0)=((0:Nat):Int):=rfl;have G:kr 4 (.an (M.length+1) 0 0 0) (.slice [] .nil) (M++[.box v.row]++[.aj 4 (d_ 0 [V.int .i64 0,v0,v0,v0]) 0 0])=I (v0,M++[.box v.row]++[.aj 4 [] 0 0]):=by
    simp[kr,dg,dP,iI]
   have C:cw ad 4 32 (.slice [] .nil) (.slice [v.row] .full) (M++[.box v.row]++[.aj 4 [] 0 0])=I (.an (M.length+2) 0 0 1,M++[.box v.row]++[.aj 4 [] 0 0]++[.aj 4 [v.row] 0 0]):=by simp[cw,dg,dP,eU,bm.row]
   have D:cw ad 4 32 (.an (M.length+2) 0 0 1) (.an (M.length+1) 0 0 0) (M++[.box v.row]++[.aj 4 [] 0 0]++[.aj 4 [v.row] 0 0])=I (.an (M.length+2) 1 0 1,M++[.box v.row]++[.aj 4 [] 0 0]++[.aj 4 [v.row] 1 0]):=by
    have R:(M++[au.box v.row]++[au.aj 4 [] 0 0]++[au.aj 4 [v.row] 0 0])[M.length+1]? =I (au.aj 4 [] 0 0):=by rw[cS,cS,fW];rfl
    have S:(M++[au.box v.row]++[au.aj 4 [] 0 0]++[au.aj 4 [v.row] 0 0])[M.length+2]? =I (au.aj 4 [v.row] 0 0):=by rw[cS,cS,fW];rfl
    have T:∀X,(M++[au.box v.row]++[au.aj 4 [] 0 0]++[au.aj 4 [v.row] 0 0]).set (M.length+2) X=M++[au.box v.row]++[au.aj 4 [] 0 0]++[X]:=λX=>by rw[cS,cS,ju,cS,cS];rfl
    simp only[cw,dg,R,eU,S,T];rfl
   have O:∀L,(M++[.box v.row]++L)[M.length]? =I (.box v.row):=λL=>by rw[cS,cE];rfl
   simp only[bm.row] at G C D O;simp-implicitDefEqProofs (disch:=omega) only[go_sem,↓aX 44,↓aX 46,↓aX 48,↓aX 49,↓aX 50,↓aX 51,bm.row,ar,al,ao,ap,G,O,C,D];refine .inr ⟨M.length+2,1,rfl,?_,Nat.zero_lt_one⟩;rw[cS,cS,fW];rfl
 have ay:b<M.length:=(az.1 E).1;have F:=λL=>a0 E L;refine aL F ?_;refine c6 l (λi a N=>∃X:List bm,a=[.an b ver 0 l.length,.ptr M.length 0,aa (ib v (l.take i)).length,.an b ver 0 l.length,aa l.length,aa i]/\N[b]? =I (.aj 4 (X.map bm.row) ver 0)/\N[M.length]? =I (.box v.row)/\X.length=l.length/\X.take (ib v (l.take i)).length=ib v (l.take i)/\X.drop i=l.drop i)
  ⟨l,rfl,F _,by rw[cE];rfl,rfl,rfl,rfl⟩ ?_ ?_;rotate_left
 . rintro a N ⟨X,rfl,d,e,f,n,_⟩;rw[f_] at n;refine aL @bV ?_;rw[f_];have ai:=Bb v l;exact aaN d e J (by rw[cz];omega) (by rw[<-List.map_take,n]) (by rw[cz];omega) _ (by rw[cz,f];rfl) rfl rfl
 rintro i w a N P k aS ⟨X,rfl,d,e,f,n,u⟩;have A:X[i]? =I w:=by have:=congrArg (·[0]?) u;simpa[P] using this
 have Z:(X.map bm.row)[i]? =I w.row:=by rw[dK,A];rfl
 have av:b<N.length:=(az.1 d).1;have aw:M.length<N.length:=(az.1 e).1;have Y:=λL=>a0 d L;have s:=λL=>a0 e L;have ae:decide (i<l.length)=U:=bR;have ai:(ib v (l.take i)).length<=i:=fJ (Bb _ _) (by rw[fh];omega);have m:ib v (l.take (i+1))=ib v (l.take i)++if qX v w=U then[] else[w]:=by rw[gM,P,ib,List.filter_append];cases h:qX v w<;>simp[ib,h]
 have z:X.drop (i+1)=l.drop (i+1):=by rw[<-List.drop_drop (i:=1) (j:=i),u,List.drop_drop]
 have H:=aag v w;simp only[bm.row] at H s e;simp only[dK] at Z;refine og aS d s A q W f ae @bm.row.eq_1 ?_;refine bG H (ah ?_);apply dt<;>intro t
 . rw[aF t,ez] at m;refine ah ?_;exact bE k ⟨X,by rw[m];rfl,a0 d _,a0 e _,f,by rw[m];exact n,z⟩
 rw[ax (by rw[t];simp)] at m;have ab:decide ((ib v (l.take i)).length<l.length)=U:=bR;obtain⟨y,aq⟩:∃y,X[(ib v (l.take i)).length]? =I y:=⟨X[(ib v (l.take i)).length]'J,by simp⟩;refine he Y q f ab aq @bm.row.eq_1 ?_;have af:(ib v (l.take i)).length<X.length:=J;refine bE k ⟨X.set (ib v (l.take i)).length w,by rw[m,b0];rfl,?_,?_,by rw[cW];exact f,?_,?_⟩
 . rw[bY (by rw[b0];omega),List.map_set];rfl
 . rw[bo J];exact s _
 . rw[m,b0,hP,gM,bY af,List.take_set,List.set_eq_of_length_le (by rw[fh];omega),n];rfl
 . rw[List.drop_set_of_lt J];exact z
def aaL(l:List bm)(v:bm):(js l v).length<=l.length+1:=by
 unfold js;split
 . omega
 . have a:=congrArg List.length (vM v (ib v l));rw[b0] at a;have b:=Bb v l;rw[b0,cc];omega
def Xu(l:List bm)(v:bm):jM (l++[v])=js (jM l) v:=by simp[jM,List.foldl_append]
def IB:∀l:List bm,(jM l).length<=l.length:=λl=>by
 have:∀(l a:List bm),(l.foldl js a).length<=a.length+l.length:=λl=>by
  induction l with
  |nil=>exactλa=>by simp
  |cons v l b=>intro a;have c:=b (js a v);have d:=aaL a v;simp only[List.foldl_cons,cc];omega
 simpa[jM] using this l []
def zr:List bm->cg
 |[]=>.nil
 |_::_=>.bF
def Nb(l:List bm)(c:cg)(u:l.length<=1000000000000):bq aH 76 [.slice (l.map bm.row) c] (λx=>x=.slice ((jM l).map bm.row) (zr (jM l))):=by
 have k:∀(K:Mem)(B:au),(K++[B])[K.length]? =I B:=λK B=>by simp
 have m:∀(K:Mem)(B X:au),(K++[B]).set K.length X=K++[X]:=λK B X=>by simp
 refine bB G5 (ah ?_);refine c6 l (λi e N=>∃x,e=[x,.slice (l.map bm.row) c,aa l.length,aa i]/\qn N x (jM (l.take i))) ⟨_,rfl,.inl ⟨rfl,rfl⟩⟩ ?_ ?_;rotate_left
 . rintro e N ⟨x,rfl,h⟩;rw[f_] at h;generalize jM l=f at h⊢;refine aL @bV ?_;rcases h with⟨rfl,rfl⟩|⟨b,ver,rfl,n,a⟩
   . refine fE (aX 24) ?_;rfl
   . have j:decide (b<0)=ad:=decide_eq_false (c9 _);have d:(f.map bm.row).take f.length=f.map bm.row:=eS (by simp);have o:zr f=.bF:=by cases f with
      |nil=>cases a
      |cons _ _=>rfl
     simp-implicitDefEqProofs (disch:=omega) only[go_sem,↓aX 24,n,j,d,o]
 rintro i v e N g q aS ⟨x,rfl,h⟩;have d:jM (l.take (i+1))=js (jM (l.take i)) v:=by rw[gM,g];exact Xu _ _
 have p:=IB (l.take i);rw[fh] at p;have a:=Nc (v:=v) (yB h [.box v.row]) J;simp only[bm.row] at a;refine es aS g k m @bm.row.eq_1 ?_;refine ch a ?_;intro r t s;refine ah ?_;exact bE q ⟨r,rfl,by rw[d];exact s⟩
structure cx where
 bz:List a7
 lc:cg
 dW:lu
 v7:List bK
 BX:cg
def cx.row(o:cx):List V:=[.slice (o.bz.map a7.row) o.lc,aa o.dW.aR,aa o.dW.aQ,aa o.dW.aY,aa o.dW.sd,aa o.dW.bD,.slice (o.v7.map bK.row) o.BX]
def f2(c:lu):bm:=⟨c.aQ,c.aY,c.sd,c.bD⟩
def Py(q:aG)(c:lu)(al:q.hE=ad):bq aH 75 [.agg q.row,.agg c.row] (λv=>v=.agg (f2 c).row):=by exact bB Gu (yo @aG.row.eq_1 @lu.row.eq_1 al @f2.eq_1 @bm.row.eq_1)
def lP(l:List cx)(v:bm):List cx:=(l.find? λo=>decide (f2 o.dW=v)).toList
def kd(l:List cx)(n:Nat):List cx:=((jM (l.map λo=>f2 o.dW)).take n).flatMap (lP l)
def oH(l:List cx):List cx:=(jM (l.map λo=>f2 o.dW)).flatMap (lP l)
def aau(l:List cx)(v:bm):(lP l v).length<=1:=by unfold lP;cases l.find? _<;>simp
theorem Us{α β:Type}(g:α->List β)(h:∀x,(g x).length<=1)(l:List α):(l.flatMap g).length<=l.length:=by
 induction l with
 |nil=>simp
 |cons x l a=>have:=h x;simp only[List.flatMap_cons,b0,cc];omega
theorem Ud{α:Type}{l:List α}{p:α->Bool}{i:Nat}{o:α}(h:l[i]? =I o)(a:(l.take i).find? p=ag)(b:p o=U):l.find? p=I o:=by rw[<-List.take_append_drop i l,List.find?_append,a,qC h,List.find?_cons_of_pos b];rfl
def Su(q:aG)(l:List cx)(c:cg)(al:q.hE=ad)(T:l.length<=1000000000000):bq aH 36 [.agg q.row,.slice (l.map cx.row) c] (λv=>v=.slice ((oH l).map cx.row) .bF):=by
 refine bB H3 (aL @aG.row.eq_1 ?_);refine c6 l (λi k N=>∃ver,k=[.slice (l.map cx.row) c,.ptr 0 0,.an 1 ver 0 i,.slice (l.map cx.row) c,aa l.length,aa i]/\N=[.box q.row,.aj 4 ((l.take i).map λo=>(f2 o.dW).row) ver 0]) ⟨0,rfl,rfl⟩ ?_ ?_
 . rintro i o k N s A aS ⟨ver,rfl,rfl⟩;have w:=Py q o.dW al;have L:((l.take i).map λo=>(f2 o.dW).row).length=i:=by simp;omega
   have B:((l.take i).map λo=>(f2 o.dW).row)++[(f2 o.dW).row]=(l.take (i+1)).map λo=>(f2 o.dW).row:=by rw[gM,s];simp
   have m:∀(a d:au)(R:List (List V))(v:bm),R.length=i->cw ad 4 32 (.an 1 ver 0 i) (.slice [[aa v.a,aa v.b,aa v.c,aa v.d]] .full) [a,.aj 4 R ver 0,d]=
    I (.an 1 (ver+1) 0 (i+1),[a,.aj 4 (R++[v.row]) (ver+1) 0,d]):=λa d R v O=>md rfl O rfl J;have m:=λa d=>m a d _ (f2 o.dW) L;simp only[aG.row,lu.row,bm.row] at w;generalize((l.take i).map λo=>(f2 o.dW).row)=R at B L m⊢;refine d0 aS s @cx.row.eq_1 @aG.row.eq_1 ?_;refine bG w (bN m B ?_);exact cN A rfl ⟨ver+1,rfl,rfl⟩
 rintro k N ⟨ver,rfl,rfl⟩;rw[f_];refine aL @bV ?_;have Z:(l.map λo=>(f2 o.dW).row)=(l.map λo=>f2 o.dW).map bm.row:=by rw[List.map_map];rfl
 have C:(l.map λo=>f2 o.dW).length=l.length:=cz _;have M:∀(i:Nat)(o:cx),l[i]? =I o->((l.map λo=>f2 o.dW).map bm.row)[i]? =I (f2 o.dW).row:=λi o h=>by rw[dK,dK,h];rfl
 rw[Z];have r:∀n,kd l n=((jM (l.map λo=>f2 o.dW)).take n).flatMap (lP l):=λn=>rfl;have F:oH l=(jM (l.map λo=>f2 o.dW)).flatMap (lP l):=rfl;have G:=IB (l.map λo=>f2 o.dW);have z:=Nb (l.map λo=>f2 o.dW) .bF (by rw[C];exact T);rw[C] at G;generalize jM (l.map λo=>f2 o.dW)=bh at r F G z;generalize(l.map λo=>f2 o.dW)=p at C M z⊢;generalize zr bh=E at z;obtain⟨y,Y⟩:∃y,kg (.an 1 ver 0 l.length) [.box q.row,.aj 4 (p.map bm.row) ver 0,.aj 7 [] 0 0]=I (.slice (p.map bm.row) .bF,[.box q.row,.aj 4 (p.map bm.row) ver y,.aj 7 [] 0 0]):=by
  rw[<-C];cases p with
  |nil=>exact⟨0,by simp[kg]⟩
  |cons x ab=>exact⟨max 0 (ab.length+1),by simp[kg,yb]⟩
 refine pi (aX 26) Y ?_;refine bG z (ah ?_);refine c6 bh (λj k N=>∃f,k=[.slice (l.map cx.row) c,.an 1 ver 0 l.length,.an 2 f 0 (kd l j).length,.slice (bh.map bm.row) E,aa bh.length,aa j]/\N=[.box q.row,.aj 4 (p.map bm.row) ver y,.aj 7 ((kd l j).map cx.row) f 0]) ⟨0,by simp[r,cC,aE],by simp[r]⟩ ?_ ?_;rotate_left
 . rintro k N ⟨f,rfl,rfl⟩;have e:kd l bh.length=oH l:=by rw[r,F,f_]
   rw[e];have B:((oH l).map cx.row).take (oH l).length=(oH l).map cx.row:=eS (by simp);simp-implicitDefEqProofs (disch:=omega) only[go_sem,↓aX 65,bV,B]
 rintro j v k N w H S ⟨f,rfl,rfl⟩;have ae:(kd l j).length<=j:=by rw[r];exact fJ (Us _ (aau l) _) (by rw[fh];omega)
 have t:kd l (j+1)=kd l j++lP l v:=by rw[r,r,gM,w];simp
 refine b6 S w @bm.row.eq_1 ?_;refine c6 l (λi k N=>(l.take i).find? (λo=>decide (f2 o.dW=v))=ag/\k=[.slice (l.map cx.row) c,.an 1 ver 0 l.length,.an 2 f 0 (kd l j).length,.ptr 3 0,.slice (bh.map bm.row) E,aa bh.length,aa j,.slice (l.map cx.row) c,aa l.length,aa i]/\
  N=[.box q.row,.aj 4 (p.map bm.row) ver y,.aj 7 ((kd l j).map cx.row) f 0,.box v.row]) ⟨rfl,rfl,rfl⟩ ?_ ?_;rotate_left
 . rintro k N ⟨u,rfl,rfl⟩;rw[f_] at u;have D:lP l v=[]:=by rw[lP,u];rfl
   rw[D,ez] at t;refine aL @bV ?_;exact cN H rfl ⟨f,by rw[t];rfl,by rw[t];rfl⟩
 rintro i o k N s A aS ⟨u,rfl,rfl⟩;have K:=M i o s;simp only[bm.row] at K;have P:decide (i<l.length)=U:=be A;have Q:decide (l.length<=p.length)=U:=bR;refine mI aS s @cx.row.eq_1 @bm.row.eq_1 K P Q ?_;rw[B5];apply aW<;>intro g
 . have D:lP l v=[o]:=by rw[lP,Ud s u (be g)];rfl
   rw[D] at t;have m:∀(a b d e:au),cw ad 7 88 (.an 2 f 0 (kd l j).length) (.slice [o.row] .full) [a,b,.aj 7 ((kd l j).map cx.row) f 0,d,e]=
    I (.an 2 (f+1) 0 ((kd l j).length+1),[a,b,.aj 7 ((kd l j).map cx.row++[o.row]) (f+1) 0,d,e]):=λa b d e=>md rfl (by simp) rfl J;have W:((kd l j).map cx.row++[o.row])=(kd l (j+1)).map cx.row:=by rw[t,iL];rfl
   have X:(kd l j).length+1=(kd l (j+1)).length:=by rw[t,b0];rfl
   rw[W,X] at m;simp only[cx.row] at m;refine aL m ?_;exact cN H rfl ⟨f+1,rfl,rfl⟩
 . refine ah ?_;refine cN A rfl ⟨?_,rfl,rfl⟩;rw[gM,s,List.find?_append,u];simp[g]
theorem Ku:∀(d a b c:List V),b.length=d.length->e6 (a++b++c) a.length d=a++d++c
 |[],a,b,c,h=>by cases b with
  |nil=>simp[e6]
  |cons _ _=>simp at h
 |x::d,a,b,c,h=>by cases b with
  |nil=>simp at h
  |cons y b=>
   have e:((a++y::b)++c).set a.length x=(a++[x])++b++c:=by rw[cS,l1,ax J,hA];simp
   rw[e6,e,show a.length+1=(a++[x]).length by simp,Ku d (a++[x]) b c (by simpa using h)];simp
def aaI(r a:List V)(h:r.length=a.length):e6 r 0 a=a:=by have:=Ku a [] r [] h;simpa using this
def lI{M:Mem}{a b ver c i:Nat}{R:List (List V)}{r:List V}(d:M[a]? =I (.aj b R ver c))(f:R[i]? =I r)(g:r.length=b):dZ b U (.df a ver i 0) M=I (.agg r):=by have e:decide (0+b<=r.length)=U:=bR;simp only[dZ,d,beq_self_eq_true,bi,f,g6,e,hN,eS (Nat.le_of_eq g)]
def Lr{M:Mem}{a b ver i:Nat}{R:List (List V)}{r c:List V}(d:M[a]? =I (.aj b R ver 0))(g:R[i]? =I c)(l:c.length=b)(k:r.length=b)(e:ko r=U)(j:fL r=U):
 qf b (.df a ver i 0) (.agg r) M=I (.undef,M.set a (.aj b (R.set i r) ver 0)):=by
 have f:decide (0+b<=c.length)=U:=bR;have h:(r.length==b)=U:=beq_iff_eq.2 k;simp only[qf,uo,V.cells?,h,e,cR,bi,d,beq_self_eq_true,c_,decide_true,j,g,f,aaI c r J]
def e2{M:Mem}{a b ver c i n:Nat}{R:List (List V)}(f:M[a]? =I (.aj b R ver c))(g:i<n)(h:n<=R.length):d8 b (.an a ver 0 n) (aa (i:Int)) M=I (.df a ver i 0):=by have d:decide (0<=(i:Int))=U:=bR;have e:decide (n<=R.length)=U:=be h;simp only[d8,d,bi,f,beq_self_eq_true,dU,be g,dm,e,cR]
def jZ{M:Mem}{a d ver b n:Nat}{R:List (List V)}(c:M[a]? =I (.aj d R ver b)):eY (.an a ver 0 n) M=I (aa n):=by simp only[eY,c,beq_self_eq_true,bi]
structure h5 where
 cP:Int
 stop:Int
 run:Int
 cl:Int
 bl:aI
def h5.row(p:h5):List V:=[aa p.cP,aa p.stop,aa p.run,aa p.cl,aa p.bl.aR,aa p.bl.aQ,aa p.bl.er,aa p.bl.dn]
structure aq where
 place:h5
 aM:Int
 aY:Int
 bD:Int
 bf:List aI
 bz:List a7
 tag:cg
def aq.row(f:aN)(l:aq):List V:=[aa l.place.cP,aa l.place.stop,aa l.place.run,aa l.place.cl,aa l.place.bl.aR,aa l.place.bl.aQ,aa l.place.bl.er,aa l.place.bl.dn,
 aa l.aM,aa l.aY,aa l.bD,e5 f l.bf,.slice (l.bz.map a7.row) l.tag]
def Ad(f:aN)(a:List aI):(e5 f a).gU=U/\(e5 f a).ia=U:=by cases a<;>exact⟨rfl,rfl⟩
theorem aq.len(f:aN)(l:aq):(l.row f).length=13:=rfl
theorem aq.cell(f:aN)(l:aq):ko (l.row f)=U:=by simp only[aq.row,ko,(Ad f l.bf).1];rfl
theorem aq.pure(f:aN)(l:aq):fL (l.row f)=U:=by simp only[aq.row,fL,(Ad f l.bf).2];rfl
theorem aq.under(f:aN)(l:aq)(n:Nat):cd n (l.row f)=U:=by simp only[aq.row,cd,xf];rfl
theorem P6(a b:List V):ko (a++b)=(ko a&&ko b):=by induction a with
 |nil=>simp[ko]
 |cons x a c=>simp[ko,c,Bool.and_assoc]
theorem P9(a b:List V):fL (a++b)=(fL a&&fL b):=by induction a with
 |nil=>simp[fL]
 |cons x a c=>simp[fL,c,Bool.and_assoc]
def dk(f:aN)(x:aq×Int):List V:=x.1.row f++[aa x.2]
theorem mD(f:aN)(x:aq×Int):(dk f x).length=14:=rfl
theorem KS(f:aN)(x:aq×Int):ko (dk f x)=U:=by rw[dk,P6,aq.cell];rfl
theorem Bm(f:aN)(x:aq×Int):fL (dk f x)=U:=by rw[dk,P9,aq.pure];rfl
theorem A_(f:aN)(x:aq×Int):e6 [v0,v0,v0,v0,v0,v0,v0,v0,v0,v0,v0,.db,.slice [] .nil,v0] 0 (dk f x)=dk f x:=rfl
theorem ug(f:aN)(l:aq):e6 [v0,v0,v0,v0,v0,v0,v0,v0,v0,v0,v0,.db,.slice [] .nil] 0 (l.row f)=l.row f:=rfl
structure fu(f:aN)(M:Mem)(h a ver:Nat)(c:Int)(l:List (aq×Int))(Nm:List (List V)):Prop where
 h:M[h]? =I (.box [.cI 34 [],.an a ver 0 l.length,aa c])
 a:M[a]? =I (.aj 14 (l.map (dk f)++Nm) ver 0)
def fu.a1{f:aN}{M:Mem}{h a ver:Nat}{c:Int}{l:List (aq×Int)}{b:List (List V)}(H:fu f M h a ver c l b)(L:Mem):fu f (M++L) h a ver c l b:=⟨a0 H.h L,a0 H.a L⟩
def fu.ne{f:aN}{M:Mem}{h a ver:Nat}{c:Int}{l:List (aq×Int)}{d:List (List V)}(H:fu f M h a ver c l d):h≠a:=λe=>by have b:=H.h;rw[e,H.a] at b;cases b
def fu.set{f:aN}{M:Mem}{h a ver:Nat}{c:Int}{l l':List (aq×Int)}{b:List (List V)}(H:fu f M h a ver c l b)(d:l'.length=l.length):fu f (M.set a (.aj 14 (l'.map (dk f)++b) ver 0)) h a ver c l' b:=
 ⟨by rw[bo H.ne.symm,d];exact H.h,bY (az.1 H.a).1⟩
def I_(f:aN)(a b:aq):bq aH 34 [.agg (a.row f),.agg (b.row f)] (λv=>v=.bool (decide (a.aM<b.aM))):=by refine bB HY (aL @aq.len ?_);have c:∀l:aq,(l.row f)[8]? =I (aa l.aM):=λ_=>rfl;exact jy c
def y2{f:aN}{M:Mem}{h a ver:Nat}{c:Int}{l:List (aq×Int)}{d:List (List V)}(H:fu f M h a ver c l d){i k:Nat}(j:i<l.length)(m:k<l.length):
 bx aH 166 [.ptr h 0,aa i,aa k] M (λv s=>tr v/\∃G,s=M++G):=by
 have R:(l.map (dk f)++d).length=l.length+d.length:=by simp
 obtain⟨x,z⟩:∃x,l[i]? =I x:=⟨l[i],by simp⟩;obtain⟨y,A⟩:∃y,l[k]? =I y:=⟨l[k],by simp⟩;have o:(l.map (dk f)++d)[i]? =I (dk f x):=by rw[et (by simpa using j),dK,z];rfl
 have p:(l.map (dk f)++d)[k]? =I (dk f y):=by rw[et (by simpa using m),dK,A];rfl
 have N:=λL=>e2 (a0 H.a L) j J;have P:=λL=>e2 (a0 H.a L) m J;have B:=λL=>lI (a0 H.a L) o (mD f x);have D:=λL=>lI (a0 H.a L) p (mD f y);have O:=e2 H.a j J;have Q:=e2 H.a m J;have C:=lI H.a o (mD f x);have E:=lI H.a p (mD f y);have n:=λL=>a0 H.h L;have w:=H.h;have e:=λL=>cE M L;have g:=λL=>fW M L;have F:=λL=>iJ M L;have K:=λL=>ju M L;refine dX Gb ?_;simp only[dN];have r:∀x:aq×Int,(dk f x).take 13=x.1.row f:=λx=>rfl;have t:∀x:aq×Int,(dk f x)[13]? =I (aa x.2):=λx=>rfl;have q:∀a b:aq,cd 0 [.agg (a.row f),.agg (b.row f)]=U:=λa b=>by simp only[cd,V.under,aq.under];rfl
 simp-implicitDefEqProofs (disch:=omega) only[go_sem,b5,w,n,N,P,B,D,O,Q,C,E,e,g,F,K,mD,KS,A_,r,cS];refine d2 (I_ f x.1 y.1) ?_ (q _ _);rintro v rfl;refine ah ?_;apply aW<;>intro u
 . refine ah ?_;exact⟨⟨_,rfl⟩,_,rfl⟩
 refine he @b5 n e g @mD r ?_;refine d2 (I_ f y.1 x.1) ?_ (q _ _);rintro v rfl;refine ah ?_;apply aW<;>intro u
 . refine ah ?_;exact⟨⟨_,rfl⟩,_,rfl⟩
 refine b6 e g t ?_;exact⟨⟨_,rfl⟩,_,rfl⟩
def BU{f:aN}{M:Mem}{h a ver:Nat}{c:Int}{l:List (aq×Int)}{b:List (List V)}(H:fu f M h a ver c l b){i k:Nat}{x y:aq×Int}(e:l[i]? =I x)(m:l[k]? =I y):
 bx aH 139 [.ptr h 0,aa i,aa k] M (λv p=>v=.tuple []/\p=M.set a (.aj 14 (((l.set i y).set k x).map (dk f)++b) ver 0)):=by
 have g:=(az.1 e).1;have d:=(az.1 m).1;have N:(l.map (dk f)++b).length=l.length+b.length:=by simp
 have o:(l.map (dk f)++b)[i]? =I (dk f x):=by rw[et (by simpa using g),dK,e];rfl
 have t:(l.map (dk f)++b)[k]? =I (dk f y):=by rw[et (by simpa using d),dK,m];rfl
 have n:∀(l:List (aq×Int))(i:Nat)(z:aq×Int),i<l.length->(l.map (dk f)++b).set i (dk f z)=(l.set i z).map (dk f)++b:=λl i z e=>by rw[l1,aF (by simpa using e),List.map_set]
 have j:=H.set (l':=l.set i y) (cW);obtain⟨z,w⟩:∃z,(l.set i y)[k]? =I z:=⟨(l.set i y)[k]'(by rw[cW];exact d),by simp⟩;have u:((l.set i y).map (dk f)++b)[k]? =I (dk f z):=by rw[et (by simpa using d),dK,w];rfl
 have K:=e2 H.a g J;have L:=e2 H.a d J;have A:=lI H.a o (mD f x);have B:=lI H.a t (mD f y);have G:=e2 j.a d (by simp);have s:=H.h;refine dX Gf ?_;simp only[dN];have E:∀x y:aq×Int,e6 (dk f x) 0 (dk f y)=dk f y:=λ_ _=>rfl;have C:=n l i y g;have D:=n (l.set i y) k x (by rw[cW];exact d);have q:=H.a;have r:=j.a;have F:∀X Y,(M.set a X).set a Y=M.set a Y:=λX Y=>h3 ..;simp-implicitDefEqProofs (disch:=omega) only[go_sem,b5,s,K,L,A,B,G,mD,KS,Bm,E,o,u,C,D,q,r,F]
def BT{α:Type}{l:List α}{i k:Nat}{x y:α}(c:l[i]? =I x)(d:l[k]? =I y):((l.set i y).set k x).Perm l:=by obtain⟨a,rfl⟩:=az.1 c;obtain⟨b,rfl⟩:=az.1 d;exact List.set_set_perm a b
def iQ(f:aN)(M:Mem)(a ver:Nat)(b:List (List V))(l:List (aq×Int))(G:Mem):Mem:=M.set a (.aj 14 (l.map (dk f)++b) ver 0)++G
def fu.ni{f:aN}{M:Mem}{h a ver:Nat}{c:Int}{l d:List (aq×Int)}{b:List (List V)}(H:fu f M h a ver c l b)(e:d.length=l.length)(G:Mem):fu f (iQ f M a ver b d G) h a ver c d b:=(H.set e).a1 G
theorem CB{f:aN}{M:Mem}{a ver:Nat}{b:List (List V)}(d:a<M.length)(l c:List (aq×Int))(G:Mem):(iQ f M a ver b l G).set a (.aj 14 (c.map (dk f)++b) ver 0)=iQ f M a ver b c G:=by rw[iQ,kh (by rw[cW];exact d),h3];rfl
def yN(f:aN)(M:Mem)(a ver:Nat)(b:List (List V))(l:List (aq×Int))(G K:Mem):iQ f M a ver b l G++K=iQ f M a ver b l (G++K):=by rw[iQ,iQ,cS]
def CC{f:aN}{M:Mem}{h a ver:Nat}{c:Int}{l:List (aq×Int)}{b:List (List V)}(H:fu f M h a ver c l b):iQ f M a ver b l []=M:=by rw[iQ,ez];obtain⟨e,d⟩:=az.1 H.a;rw[<-d,List.set_getElem_self]
def BE{f:aN}{M:Mem}{h a ver:Nat}{c:Int}{l d:List (aq×Int)}{j:List (List V)}(H:fu f M h a ver c l j)(p:d.length=l.length)(G:Mem)(Q:Exit->av->Mem->Prop)(s:av){i k:Nat}(C:i<l.length)(D:k<l.length)
 (m:aE s 0=.ptr h 0)(n:aE s 2=aa i)(o:aE s 3=aa k)(B:∀s e,Q .ret s (iQ f M a ver j d e))(A:∀t e,t.Perm d->Q .normal [(0,.ptr h 0),(2,aa k)] (iQ f M a ver j t e)):
 ck aH Dx Q s (iQ f M a ver j d G):=by
 have z:a<M.length:=(az.1 H.a).1;have u:=H.ni p G;refine v6 (aX 11) (aX 17) m n o ?_;refine ch (y2 u J J) ?_;rintro v _ ⟨⟨b,rfl⟩,e,rfl⟩;rw[yN];refine b6 m n o ?_;apply cU<;>intro g
 . refine ah ?_;exact B _ _
 obtain⟨x,q⟩:∃x,d[i]? =I x:=⟨d[i]'J,by simp⟩;obtain⟨y,r⟩:∃y,d[k]? =I y:=⟨d[k]'J,by simp⟩;have w:=H.ni p (G++e);refine v6 (aX 13) (aX 16) m n o ?_;refine ch (BU w q r) ?_;rintro v _ ⟨rfl,rfl⟩;rw[CB z];refine lk (aX 15) m n o ?_;exact A _ _ (BT q r)
def acz{f:aN}{M:Mem}{h a ver:Nat}{c:Int}{l:List (aq×Int)}{u:List (List V)}(H:fu f M h a ver c l u)(S:l.length<=1000000000000):
 bx aH 140 [.ptr h 0] M (λv E=>v=.tuple []/\∃d G,E=iQ f M a ver u d G/\d.Perm l):=by
 have R:a<M.length:=(az.1 H.a).1;refine dX Gd ?_;simp only[dN];refine ah ?_;refine jz (λm C N=>∃(i:Nat)(d:List (aq×Int))(G:Mem),m=l.length -i/\C=[.ptr h 0,aa i]/\N=iQ f M a ver u d G/\d.Perm l/\i<=l.length) l.length
  ⟨0,l,[],rfl,rfl,(CC H).symm,.refl _,c_ _⟩ ?_;rintro m C N ⟨i,d,G,rfl,rfl,rfl,q,W⟩;have p:=q.length_eq;have t:=H.ni p G;have F:(2*(i:Int)+1)=((2*i+1:Nat):Int):=J;have w:(((2*i+1:Nat):Int)+1)=((2*i+2:Nat):Int):=J;have T:=λK=>a0 t.h K;have y:=t.h;have X:=λn K=>jZ (n:=n) (a0 t.a K);have A:=λn=>jZ (n:=n) t.a;refine es @b5 y A F p ?_;apply aW<;>intro L
 . refine ah ?_;exact⟨d,G,rfl,q⟩
 have fin:∀(k:Nat)(r:Mem),2*i+1<=k->k<l.length->∀e j,e.Perm d->∃B,B<l.length -i/\∃(x:Nat)(z:List (aq×Int))(D:Mem),B=l.length -x/\[V.ptr h 0,aa k]=[V.ptr h 0,aa x]/\iQ f M a ver u e j=iQ f M a ver u z D/\z.Perm l/\x<=l.length:=
  λk r P Q e j o=>⟨l.length -k,J,k,e,j,rfl,rfl,rfl,o.trans q,J⟩;refine es @b5 y A w p ?_;apply aW<;>intro O
 . refine aL w ?_;refine ch (y2 t J J) ?_;rintro v _ ⟨⟨b,rfl⟩,r,rfl⟩;rw[yN];refine ah ?_;apply dt<;>intro g
   . refine aL w ?_;refine BE H p _ _ _ (i:=i) (k:=2*i+2) J J rfl rfl rfl (λs r=>⟨rfl,d,_,rfl,q⟩) λe j o=>.inl (fin _ [] J J e j o)
   . refine ah ?_;refine BE H p _ _ _ (i:=i) (k:=2*i+1) J J rfl rfl rfl (λs r=>⟨rfl,d,_,rfl,q⟩) λe j o=>.inl (fin _ [] J J e j o)
 . refine ah ?_;refine BE H p _ _ _ (i:=i) (k:=2*i+1) J J rfl rfl rfl (λs r=>⟨rfl,d,_,rfl,q⟩) λe j o=>.inl (fin _ [] J J e j o)
def ev(h:Nat)(M a:Mem):Prop:=∀(i:Nat)(B:au),M[i]? =I B->i≠h->(∀R ver b,B≠.aj 14 R ver b)->a[i]? =I B
def ev.refl(h:Nat)(M:Mem):ev h M M:=λ_ _ h _ _=>h
def ev.trans{h:Nat}{M c d:Mem}(a:ev h M c)(b:ev h c d):ev h M d:=λi B g e f=>b i B (a i B g e f) e f
def ev.a1(h:Nat)(M L:Mem):ev h M (M++L):=λi B a _ _=>a0 a L
def ev.Bz{h a:Nat}{M:Mem}{R:List (List V)}{ver c:Nat}(f:M[a]? =I (.aj 14 R ver c))(B:au):ev h M (M.set a B):=λi C b _ e=>by
 by_cases d:a=i
 . subst d;rw[f] at b;cases b;exact aJ rfl (e R ver c)
 . rw[bo d];exact b
def ev.BA(h:Nat)(M:Mem)(B:au):ev h M (M.set h B):=λi C a b _=>by rw[bo (cA b)];exact a
def ev.ni{f:aN}{M:Mem}{h a ver:Nat}{c:Int}{l:List (aq×Int)}{b:List (List V)}(H:fu f M h a ver c l b)(d:List (aq×Int))(G:Mem):ev h M (iQ f M a ver b d G):=
 (ev.Bz H.a _).trans (ev.a1 _ _ _)
def ev.new{h i:Nat}{M N:Mem}(a:ev h M N)(e:M.length<=i)(B:au):ev h M (N.set i B):=λk C b c d=>by have:=(az.1 b).1;rw[bo J];exact a k C b c d
def fu.qc{f:aN}{M:Mem}{h a ver:Nat}{c:Int}{l:List (aq×Int)}{b:List (List V)}(H:fu f M h a ver c l b){i:Nat}(d:i≠h)(e:i≠a)(B:au):fu f (M.set i B) h a ver c l b:=
 ⟨by rw[bo d];exact H.h,by rw[bo e];exact H.a⟩
def s5:List V:=[v0,v0,v0,v0,v0,v0,v0,v0,v0,v0,v0,.db,.slice [] .nil]
def Cq{f:aN}{M:Mem}{h a ver:Nat}{c:Int}{l:List (aq×Int)}{b:List (List V)}(H:fu f M h a ver c l b):bx aH 72 [.ptr h 0] M (λv d=>v=aa l.length/\d=M):=by have e:=H.h;have g:=λn=>jZ (n:=n) H.a;refine dX z6 ?_;simp only[dN];exact rz @b5 @r7 e g
def O7{f:aN}{M:Mem}{h a ver:Nat}{c:Int}{x:aq×Int}{r:List (aq×Int)}{b:List (List V)}(H:fu f M h a ver c (x::r) b):
 bx aH 138 [.ptr h 0] M (λv d=>v=.tuple [.agg (x.1.row f),.bool U]/\∃G,d=M++G):=by
 have o:=λL=>Cq (H.a1 L);have k:=λL=>a0 H.h L;have ay:=λL=>e2 (i:=0) (n:=(x::r).length) (a0 H.a L) (by simp) (by simp);have m:=λL=>a0 H.a L;have j:(((x::r).map (dk f)++b))[0]? =I (dk f x):=rfl;have q:∀x:aq×Int,(dk f x).take 13=x.1.row f:=λx=>rfl;have s:∀l:aq,(l.row f).take 13=l.row f:=λ_=>rfl;have t:=λL=>fW M L;have u:=λL=>ju M L;have e:=λL=>cE M L;have g:=λL=>iJ M L;have p:decide (((x::r).length:Int)=0)=ad:=decide_eq_false (by simp;omega);simp only[Int.ofNat_zero] at ay;refine dX F7 ?_;simp only[dN];generalize w:x::r=l at*;refine aL @cS.{0} ?_;refine kc (o _) ?_;simp-implicitDefEqProofs (disch:=omega) only[go_sem,p,b5,k,ay,m,j,mD,q,e,g,aq.len,aq.cell,ug,s];exact⟨_,rfl⟩
def aaA{α:Type}{x y:α}{r:List α}(e:(x::r)[r.length]? =I y):((((x::r).set 0 y).set r.length x).take r.length).Perm r:=by
 have a:=BT (l:=x::r) (i:=0) (k:=r.length) (x:=x) (y:=y) rfl e;have c:(((x::r).set 0 y).set r.length x).length=r.length+1:=by rw[cW,cW];rfl
 generalize b:((x::r).set 0 y).set r.length x=l at a c⊢;have d:l[r.length]? =I x:=by rw[<-b,bY (by rw[cW];simp)]
 have ae:l.take r.length++[x]=l:=by
  calc l.take r.length++[x]=l.take (r.length+1):=by rw[gM,d];rfl
   _=l:=eS J
 rw[<-ae] at a;exact((List.perm_append_singleton x _).symm.trans a).cons_inv
def Pa{f:aN}{M:Mem}{h a ver:Nat}{c:Int}{x:aq×Int}{r:List (aq×Int)}{d:List (List V)}(H:fu f M h a ver c (x::r) d)(aS:(x::r).length<=1000000000000):
 bx aH 73 [.ptr h 0] M (λv O=>v=.tuple [.agg (x.1.row f),.bool U]/\∃ae ap,fu f O h a ver c ae ap/\ae.Perm r/\ev h M O):=by
 obtain⟨y,ab⟩:∃y,(x::r)[r.length]? =I y:=⟨(x::r)[r.length]'(by simp),by simp⟩;have Y:=aaA ab;have aE:=λL=>O7 (H.a1 L);have w:∀(K:Mem)(B:au),(K++[B])[K.length]? =I B:=λK B=>by simp
 have ax:∀(K:Mem)(B X:au),(K++[B]).set K.length X=K++[X]:=λK B X=>by simp
 have aD:(x::r).length=r.length+1:=rfl;have aJ:(((r.length+1:Nat):Int) -1)=(r.length:Int):=J;have aT:h<M.length:=(az.1 H.h).1;have aR:a<M.length:=(az.1 H.a).1;have aP:∀l:aq,(l.row f).take 13=l.row f:=λ_=>rfl;refine dX F9 ?_;simp only[dN];refine ah ?_;refine ch (aE _) ?_;rintro v _ ⟨rfl,G,rfl⟩;obtain⟨N,q,ao,t,bh⟩:∃N,N=(M++[au.box s5])++G/\fu f N h a ver c (x::r) d/\N[M.length]? =I (.box s5)/\ev h M N:=⟨_,rfl,(H.a1 _).a1 _,a0 (w M _) G,(ev.a1 h M _).trans (ev.a1 h _ _)⟩;rw[<-show N=(M++[au.box [v0,v0,v0,v0,v0,v0,v0,v0,v0,v0,v0,.db,.slice [] .nil]])++G from q];clear q;refine es w ax @aq.len @aq.cell @ug ?_;have ay:M.length<N.length:=(az.1 t).1;generalize aA:N.length=j at ay⊢;obtain⟨g,q,o,t,aQ,bh⟩:∃g,g=N++[au.box (x.1.row f)]/\fu f g h a ver c (x::r) d/\g[M.length]? =I (.box s5)/\g[j]? =I (.box (x.1.row f))/\ev h M g:=⟨_,rfl,ao.a1 _,a0 t _,by rw[<-aA];exact w _ _,bh.trans (ev.a1 h _ _)⟩;rw[<-q];clear q;obtain⟨b,A⟩:∃b,b=((x::r).set 0 y).set r.length x:=⟨_,rfl⟩;have C:b.length=r.length+1:=by rw[A,cW,cW];rfl
 have aC:b[r.length]? =I x:=by rw[A,bY (by rw[cW];simp)]
 have aI:b.take r.length++[x]=b:=by
  calc b.take r.length++[x]=b.take (r.length+1):=by rw[gM,aC];rfl
   _=b:=eS J
 have aF:b.map (dk f)++d=(b.take r.length).map (dk f)++(dk f x::d):=by
  conv=>lhs;rw[<-aI]
  simp
 have Z:=BU o (i:=0) (k:=r.length) rfl ab;rw[<-A] at Z Y;have m:=o.set (l':=b) (by rw[C];rfl);have P:=bh.trans (ev.Bz o.a (.aj 14 (b.map (dk f)++d) ver 0));have af:(g.set a (.aj 14 (b.map (dk f)++d) ver 0))[M.length]? =I (.box s5):=by rw[bo J];exact t
 have ak:(g.set a (.aj 14 (b.map (dk f)++d) ver 0))[j]? =I (.box (x.1.row f)):=by rw[bo J];exact aQ
 have S:=o.h;have aK:=λn=>jZ (n:=n) o.a;simp only[aD] at S;simp-implicitDefEqProofs (disch:=omega) only[go_sem,↓aX 10,↓aX 23,b5,S,aK,aJ];refine yn (aX 12) (aX 22) ?_;refine ch Z ?_;rintro v _ ⟨rfl,rfl⟩;generalize g.set a (.aj 14 (b.map (dk f)++d) ver 0)=p at m P af ak⊢;have T:=m.h;rw[C] at T;have aO:=Kk (n:=r.length+1) (k:=r.length) m.a (by rw[b0,cz,C];omega) J;refine v6 (aX 14) (aX 21) @b5 T aO ?_;have aB:(b.take r.length).length=r.length:=by rw[fh];omega
 have s:fu f (p.set h (.box [.cI 34 [],.an a ver 0 r.length,aa c])) h a ver c (b.take r.length) (dk f x::d):=
  ⟨by rw[bY (az.1 m.h).1,aB],by rw[bo m.ne,<-aF];exact m.a⟩;have Q:=P.trans (ev.BA h p (.box [.cI 34 [],.an a ver 0 r.length,aa c]));have ai:(p.set h (.box [.cI 34 [],.an a ver 0 r.length,aa c]))[M.length]? =I (.box s5):=by rw[bo J];exact af
 have al:(p.set h (.box [.cI 34 [],.an a ver 0 r.length,aa c]))[j]? =I (.box (x.1.row f)):=by rw[bo J];exact ak
 generalize p.set h (.box [.cI 34 [],.an a ver 0 r.length,aa c])=ar at s Q ai al⊢;have aG:=acz s J;refine yn (aX 16) (aX 20) ?_;refine ch aG ?_;rintro v _ ⟨rfl,D,u,rfl,W⟩;have F:=s.ni W.length_eq u;have z:=ev.ni s D u;have R:=Q.trans z;have E:=z _ _ ai J (by intro _ _ _ e;cases e);have am:=z _ _ al J (by intro _ _ _ e;cases e);generalize iQ f ar a ver (dk f x::d) D u=av at F R E am⊢;have aw:∀X,(av.set M.length X)[M.length]? =I X:=λX=>bY (az.1 E).1;have aM:e6 s5 0 (x.1.row f)=x.1.row f:=rfl;have aL:s5.length=13:=rfl;simp-implicitDefEqProofs (disch:=omega) only[go_sem,↓aX 18,↓aX 19,am,E,aw,aq.len,aq.cell,aL,aM,aP];exact⟨D,_,F.qc J J _,W.trans Y,R.new (bk _) _⟩
def XA(n:Nat)(a:n<=1000000000000):cT .quo .none (aa (n:Int)) (aa 2)=I (aa ((n/2:Nat):Int)):=by rw[wH _ _ _ _ J];have:Int.tdiv (n:Int) 2=((n/2:Nat):Int):=rfl;rw[this,kH _ J J]
def Kt{f:aN}{M:Mem}{h a ver:Nat}{c:Int}{l:List (aq×Int)}{g:List (List V)}(H:fu f M h a ver c l g)(C:l.length<=1000000000000)(B:0<l.length)(Q:Exit->av->Mem->Prop)
 (n:∀d G s,d.Perm l->Q .normal s (iQ f M a ver g d G)):
 ck aH Dw Q [(0,.ptr h 0),(4,aa ((l.length -1:Nat):Int))] M:=by
 have w:a<M.length:=(az.1 H.a).1;refine yn (aX 19) (aX 20) ?_;refine jz (λm r N=>∃(i:Nat)(d:List (aq×Int))(G:Mem),m=i/\r=[.ptr h 0,aa i]/\N=iQ f M a ver g d G/\d.Perm l/\i<l.length) (l.length -1)
  ⟨l.length -1,l,[],rfl,rfl,(CC H).symm,.refl _,J⟩ ?_;rintro i r N ⟨_,d,G,rfl,rfl,rfl,e,D⟩;have o:=e.length_eq;have u:=H.ni o G;refine ah ?_;apply cF<;>intro z
 . refine ah ?_;exact n d G _ e
 have j:((i:Int) -1)=((i -1:Nat):Int):=J;have k:=XA (i -1) J;obtain⟨x,p⟩:∃x,d[i]? =I x:=⟨d[i]'J,by simp⟩;obtain⟨y,q⟩:∃y,d[(i -1)/2]? =I y:=⟨d[(i -1)/2]'J,by simp⟩;refine bN j k ?_;refine ch (y2 u J J) ?_;rintro v _ ⟨⟨b,rfl⟩,t,rfl⟩;rw[yN];refine ah ?_;apply cU<;>intro A
 . refine ah ?_;exact n d _ _ e
 refine bN j k ?_;refine ch (BU (H.ni o (G++t)) p q) ?_;rintro v _ ⟨rfl,rfl⟩;rw[CB w];refine bN j k ?_;exact sJ ((i -1)/2) J ⟨(i -1)/2,_,_,rfl,rfl,rfl,(BT p q).trans e,J⟩
theorem aaH{f:aN}{M:Mem}{h a ver:Nat}{c:Int}{l:List (aq×Int)}{d:List (List V)}(H:fu f M h a ver c l d)(e:aq×Int)(m:l.length<=1000000000000):
 cw ad 14 128 (.an a ver 0 l.length) (.slice [dk f e] .full) M=I (.an a (ver+1) 0 (l.length+1),M.set a (.aj 14 ((l++[e]).map (dk f)) (ver+1) 0)):=by
 have i:decide ((l.length+1)*256<=2^48)=U:=bR;have k:((dk f e).length==14)=U:=rfl;cases d with
 |nil=>
  have g:(l.length==(l.map (dk f)++[]).length)=U:=by simp
  have b:(l.map (dk f)++[]).length=l.length:=by simp
  simp only[cw,dg,dP,k,cc,eu,dm,beq_self_eq_true,bi,eU,H.a,b,cR,Nat.reduceMul,i];simp
 |cons q j=>
  have g:(l.length==(l.map (dk f)++q::j).length)=ad:=by simp
  have b:decide (l.length<=(l.map (dk f)++q::j).length)=U:=be (by simp);simp only[cw,dg,dP,k,cc,eu,dm,beq_self_eq_true,bi,eE,eU,H.a,g,b,cR,Bool.and_false,Bool.false_and,Nat.reduceMul,i,c_,decide_true];simp
def Pd{f:aN}{M:Mem}{h a ver:Nat}{c:Int}{l:List (aq×Int)}{m:List (List V)}(H:fu f M h a ver c l m)(x:aq)(O:l.length+1<=1000000000000):
 bx aH 137 [.ptr h 0,.agg (x.row f)] M (λv g=>v=.tuple []/\∃n d,fu f g h a (ver+1) n d []/\d.Perm (l++[(x,c)])/\ev h M g):=by
 have p:∀(K:Mem)(B:au),(K++[B])[K.length]? =I B:=λK B=>by simp
 have P:h<M.length:=(az.1 H.h).1;have N:a<M.length:=(az.1 H.a).1;have j:=λL=>a0 H.h L;have r:=λL=>aaH (H.a1 L) (x,c) J;have C:e6 [v0,v0,v0,v0,v0,v0,v0,v0,v0,v0,v0,.db,.slice [] .nil,v0] 0 (x.row f)=x.row f++[v0]:=rfl;have z:(x.row f++[V.int .i64 0]).length=14:=rfl;have A:(x.row f++[V.int .i64 0]).set 13 (aa c)=dk f (x,c):=rfl;have E:∀x,(dk f x).take 14=dk f x:=λ_=>rfl;obtain⟨b,q,ba,bA,bh⟩:∃b,b=(M++[au.box (x.row f)]).set a (.aj 14 ((l++[(x,c)]).map (dk f)) (ver+1) 0)/\b[h]? =I (.box [.cI 34 [],.an a ver 0 l.length,aa c])/\b[a]? =I (.aj 14 ((l++[(x,c)]).map (dk f)) (ver+1) 0)/\ev h M b:=
  ⟨_,rfl,by rw[bo H.ne.symm];exact j _,bY (by rw[b0];omega),(ev.a1 h M _).trans (ev.Bz (a0 H.a _) _)⟩;have aD:=q.symm;have t:=(az.1 ba).1;have u:∀X,(b.set h X)[h]? =I X:=λX=>bY t;have w:∀X Y,(b.set h X).set h Y=b.set h Y:=λX Y=>h3 ..;have y:∀X,(b.set h X)[a]? =I (.aj 14 ((l++[(x,c)]).map (dk f)) (ver+1) 0):=λX=>by rw[bo H.ne];exact bA
 have o:(((l.length+1:Nat):Int) -1)=((l.length:Nat):Int):=J;have D:∀l:aq,(l.row f).take 13=l.row f:=λ_=>rfl;refine dX z7 ?_;simp only[dN];simp-implicitDefEqProofs (disch:=omega) only[go_sem,b5,r7,aq.len,p,j,D,C,z,A,A_,mD,Bm,E,r,aD,ba,u,w,y,o];have e:fu f (b.set h (.box [.cI 34 [],.an a (ver+1) 0 (l.length+1),aa (IntKind.i64.wrap (c+1))])) h a (ver+1) (IntKind.i64.wrap (c+1)) (l++[(x,c)]) []:=
  ⟨by rw[bY (az.1 ba).1,b0];rfl,by rw[bo H.ne,ez];exact bA⟩;have i:=bh.trans (ev.BA h b (.box [.cI 34 [],.an a (ver+1) 0 (l.length+1),aa (IntKind.i64.wrap (c+1))]));generalize b.set h (.box [.cI 34 [],.an a (ver+1) 0 (l.length+1),aa (IntKind.i64.wrap (c+1))])=F at e i⊢;rw[show l.length=(l++[(x,c)]).length -1 by simp];refine Kt e (by simp;omega) (by simp) _ λd G s k=>?_;refine ah ?_;exact⟨_,d,e.ni k.length_eq G,k,i.trans (ev.ni e d G)⟩
def Pe{f:aN}{M:Mem}{h:Nat}{c:Int}(H:M[h]? =I (.box [.cI 34 [],.slice [] .nil,aa c]))(x:aq):
 bx aH 137 [.ptr h 0,.agg (x.row f)] M (λv e=>v=.tuple []/\∃a ver o,fu f e h a ver o [(x,c)] []/\ev h M e):=by
 have k:∀(K:Mem)(B:au),(K++[B])[K.length]? =I B:=λK B=>by simp
 have O:h<M.length:=(az.1 H).1;have i:=λL=>a0 H L;have r:∀K:Mem,cw ad 14 128 (.slice [] .nil) (.slice [dk f (x,c)] .full) K=I (.an K.length 0 0 1,K++[.aj 14 [dk f (x,c)] 0 0]):=λK=>by simp only[cw,dg,dP,mD,beq_self_eq_true,bi,eU];rfl
 have D:e6 [v0,v0,v0,v0,v0,v0,v0,v0,v0,v0,v0,.db,.slice [] .nil,v0] 0 (x.row f)=x.row f++[v0]:=rfl;have A:(x.row f++[V.int .i64 0]).length=14:=rfl;have C:(x.row f++[V.int .i64 0]).set 13 (aa c)=dk f (x,c):=rfl;have F:∀x,(dk f x).take 14=dk f x:=λ_=>rfl;have E:∀l:aq,(l.row f).take 13=l.row f:=λ_=>rfl;have j:(M++[au.box (x.row f)]).length=M.length+1:=by simp
 obtain⟨b,q,ba,bA,bh⟩:∃b,b=(M++[au.box (x.row f)])++[.aj 14 [dk f (x,c)] 0 0]/\b[h]? =I (.box [.cI 34 [],.slice [] .nil,aa c])/\b[M.length+1]? =I (.aj 14 [dk f (x,c)] 0 0)/\ev h M b:=
  ⟨_,rfl,a0 (i _) _,by rw[<-j];exact k _ _,(ev.a1 h M _).trans (ev.a1 h _ _)⟩;have aD:(M++[au.box (x.row f)])++[.aj 14 [dk f (x,c)] 0 0]=b:=q.symm;have t:=(az.1 ba).1;have m:∀X,(b.set h X)[h]? =I X:=λX=>bY t;have y:∀X Y,(b.set h X).set h Y=b.set h Y:=λX Y=>h3 ..;have n:∀X,(b.set h X)[M.length+1]? =I (.aj 14 [dk f (x,c)] 0 0):=λX=>by rw[bo J];exact bA
 have p:(((1:Nat):Int) -1)=(([(x,c)].length -1:Nat):Int):=rfl;refine dX z7 ?_;simp only[dN];simp-implicitDefEqProofs (disch:=omega) only[go_sem,b5,r7,aq.len,k,i,E,D,A,C,A_,mD,Bm,F,r,j,aD,ba,m,y,n];have d:fu f (b.set h (.box [.cI 34 [],.an (M.length+1) 0 0 1,aa (IntKind.i64.wrap (c+1))])) h (M.length+1) 0 (IntKind.i64.wrap (c+1)) [(x,c)] []:=
  ⟨m _,n _⟩;have g:=bh.trans (ev.BA h b (.box [.cI 34 [],.an (M.length+1) 0 0 1,aa (IntKind.i64.wrap (c+1))]));generalize b.set h (.box [.cI 34 [],.an (M.length+1) 0 0 1,aa (IntKind.i64.wrap (c+1))])=N at d g⊢;rw[p];refine Kt d (by simp) (by simp) _ λz G s w=>?_;refine ah ?_;have u:z=[(x,c)]:=List.perm_singleton.1 w;subst u;exact⟨_,_,_,d.ni rfl G,g.trans (ev.ni d _ G)⟩
def kl(f:aN)(M:Mem)(h:Nat)(Q:List aq):Prop:=∃c,(M[h]? =I (.box [.cI 34 [],.slice [] .nil,aa c])/\Q=[])∨
 ∃a ver l b,fu f M h a ver c l b/\(l.map (·.1)).Perm Q
def kl.a1{f:aN}{M:Mem}{h:Nat}{Q:List aq}(H:kl f M h Q)(L:Mem):kl f (M++L) h Q:=by
 obtain⟨c,⟨b,d⟩|⟨a,ver,l,e,b,d⟩⟩:=H
 . exact⟨c,.inl ⟨a0 b L,d⟩⟩
 . exact⟨c,.inr ⟨a,ver,l,e,b.a1 L,d⟩⟩
def kl.cj{f:aN}{M b:Mem}{h:Nat}{Q:List aq}(H:kl f M h Q)(d:b[h]? =M[h]?)(g:∀(i:Nat) R ver,M[i]? =I (au.aj 14 R ver 0)->b[i]? =M[i]?):kl f b h Q:=by
 obtain⟨c,⟨aD,ba⟩|⟨a,ver,l,e,aD,ba⟩⟩:=H
 . exact⟨c,.inl ⟨d.trans aD,ba⟩⟩
 . exact⟨c,.inr ⟨a,ver,l,e,⟨d.trans aD.h,(g a _ ver aD.a).trans aD.a⟩,ba⟩⟩
def Pf{f:aN}{M:Mem}{h:Nat}{Q:List aq}(H:kl f M h Q):bx aH 72 [.ptr h 0] M (λv b=>v=aa Q.length/\b=M):=by
 obtain⟨c,⟨aD,rfl⟩|⟨a,ver,l,d,aD,ba⟩⟩:=H
 . refine dX z6 ?_;simp only[dN];exact pj @b5 @r7 aD
 . rw[show Q.length=l.length by rw[<-ba.length_eq,cz]];exact Cq aD
theorem Ph{f:aN}{M:Mem}{h:Nat}{Q:List aq}(H:kl f M h Q)(k:0<Q.length)(o:Q.length<=1000000000000):
 bx aH 73 [.ptr h 0] M (λv b=>∃x d,v=.tuple [.agg (x.row f),.bool U]/\kl f b h d/\(x::d).Perm Q/\ev h M b):=by
 obtain⟨c,⟨aD,rfl⟩|⟨a,ver,l,n,aD,ba⟩⟩:=H
 . cases k
 have e:=ba.length_eq;rw[cz] at e;cases l with
 |nil=>simp at e;omega
 |cons x r=>refine bx.mono (Pa aD J) ?_;rintro v b ⟨rfl,g,j,i,m,bh⟩;exact⟨x.1,g.map (·.1),rfl,⟨c,.inr ⟨a,ver,g,j,i,.refl _⟩⟩,((m.map (λy=>y.1)).cons x.1).trans (by simpa using ba),bh⟩
def Pj{f:aN}{M:Mem}{h:Nat}{Q:List aq}(H:kl f M h Q)(x:aq)(m:Q.length+1<=1000000000000):
 bx aH 137 [.ptr h 0,.agg (x.row f)] M (λv b=>v=.tuple []/\kl f b h (Q++[x])/\ev h M b):=by
 obtain⟨c,⟨aD,rfl⟩|⟨a,ver,l,k,aD,ba⟩⟩:=H
 . refine bx.mono (Pe aD x) ?_;rintro v b ⟨rfl,a,ver,e,d,bh⟩;exact⟨rfl,⟨e,.inr ⟨a,ver,_,_,d,.refl _⟩⟩,bh⟩
 . have g:=ba.length_eq;rw[cz] at g;refine bx.mono (Pd aD x J) ?_;rintro v b ⟨rfl,e,j,d,i,bh⟩;refine⟨rfl,⟨e,.inr ⟨a,_,j,_,d,?_⟩⟩,bh⟩;refine(i.map (·.1)).trans ?_;rw[iL];exact ba.append_right _
def Pg{M:Mem}(f:aN):bx aH 33 [.cI 34 []] M (λv a=>v=.ptr M.length 0/\∃B,a=M++[B]/\kl f a M.length []):=by have b:cT .eql .fn (.cI 34 []) .ff=I (.bool ad):=rfl;refine dX Gj ?_;simp only[dN];refine aL b ?_;exact⟨_,rfl,0,.inl ⟨by rw[cE];rfl,rfl⟩⟩
noncomputable instance:DecidableEq h5:=λ_ _=>Classical.propDecidable _
def lH(p:h5):V:=.agg p.row
theorem Ap:is (.cells [.int,.int,.int,.int,.int,.int,.int,.int]) lH:=by
 refine⟨λ_=>rfl,λx y=>?_⟩;have e:decide (x=y)=(decide (x.cP=y.cP)&&(decide (x.stop=y.stop)&&(decide (x.run=y.run)&&(decide (x.cl=y.cl)&&(decide (x.bl.aR=y.bl.aR)&&(decide (x.bl.aQ=y.bl.aQ)&&(decide (x.bl.er=y.bl.er)&&(decide (x.bl.dn=y.bl.dn)&&U)))))))):=by obtain⟨k,s,r,c,⟨a,b,z,m⟩⟩:=x;obtain⟨h,l,j,g,⟨d,f,n,i⟩⟩:=y;rw[Bool.eq_iff_iff];simp only[bL,cZ,h5.mk.injEq,aI.mk.injEq,and_true]
 rw[e];rfl
section
variable{α:Type}[DecidableEq α]{c:en}{bZ:α->V}
theorem Jl(h:is c bZ){x:α}:∀(l:List (α×V))(n i:Nat)(v:V),l[i]? =I (x,v)->(∀(k:Nat)(e:α×V),k<i->l[k]? =I e->e.1≠x)->gs c (bZ x) (bX bZ l) n=I (n+i)
 |[],_,_,_,a,_=>by simp at a
 |e::l,n,0,v,a,_=>by
  have b:e=(x,v):=by simpa using a
  subst b;show(bif (gF c (bZ x) (bZ x)).getD ad then I n else _)=_;rw[h.eq,be rfl];rfl
 |e::l,n,i+1,v,a,d=>by have g:decide (x=e.1)=ad:=decide_eq_false λq=>d 0 e J rfl q.symm;show(bif (gF c (bZ x) (bZ e.1)).getD ad then _ else gs c (bZ x) (bX bZ l) (n+1))=_;rw[Jl h l (n+1) i v (by simpa using a) λk f j b=>d (k+1) f J (by simpa using b),h.eq,g];show I (n+1+i)=I (n+(i+1));rw[show n+1+i=n+(i+1) by omega]
theorem Jm(h:is c bZ){x:α}:∀(l:List (α×V))(n:Nat),(∀e∈l,e.1≠x)->gs c (bZ x) (bX bZ l) n=ag
 |[],_,_=>rfl
 |e::l,n,a=>by have b:decide (x=e.1)=ad:=decide_eq_false λq=>a e (by simp) q.symm;show(bif (gF c (bZ x) (bZ e.1)).getD ad then _ else gs c (bZ x) (bX bZ l) (n+1))=_;rw[Jm h l (n+1) λq al=>a q (by simp[al]),h.eq,b];rfl
def Tt(h:is c bZ){x:α}{l:List (α×V)}{i m:Nat}{v z:V}{M:Mem}(a:M[m]? =I (.map (bX bZ l)))(d:l[i]? =I (x,v))(j:∀(k:Nat)(e:α×V),k<i->l[k]? =I e->e.1≠x):
 p1 c z (.map m) (bZ x) M=I (.tuple [v,aa i],M):=by
 have b:(bX bZ l)[i]? =I (bZ x,v):=by rw[bX,dK,d];rfl
 obtain⟨o,f⟩:=az.1 b;have ae:(bX bZ l).set i (bZ x,v)=bX bZ l:=by rw[<-f,List.set_getElem_self]
 obtain⟨p,g⟩:=az.1 a;have n:M.set m (.map (bX bZ l))=M:=by rw[<-g,List.set_getElem_self]
 simp only[p1,a,h.key,tV h,cR,bi,Jl h l 0 i v d j,dm,b,jE,ae,n]
def Tu(h:is c bZ){x:α}{l:List (α×V)}{m:Nat}{z:V}{M:Mem}(a:M[m]? =I (.map (bX bZ l)))(b:∀e∈l,e.1≠x):
 p1 c z (.map m) (bZ x) M=I (.tuple [z,aa l.length],M.set m (.map (bX bZ (l++[(x,z)])))):=by
 simp only[p1,a,h.key,tV h,cR,bi,Jm h l 0 b];simp[bX]
def EF{x:α}{l:List (α×V)}{i m:Nat}{v w:V}{M:Mem}(b:M[m]? =I (.map (bX bZ l)))(d:l[i]? =I (x,v))(e:w.gU=U):
 r6 (.map m) (aa (i:Int)) w M=I (.undef,M.set m (.map (bX bZ (l.set i (x,w))))):=by
 have c:(bX bZ l)[i]? =I (bZ x,v):=by rw[bX,dK,d];rfl
 have a:decide (0<=(i:Int))=U:=bR;simp only[r6,b,a,e,cR,bi,dU,c,jE];simp[bX,List.map_set]
end
noncomputable def eK (A:List aq) (p:h5):List aq:=A.filter λl=>decide (l.place=p)
def py(A:List aq)(l:aq)(p:h5):eK (A++[l]) p=if l.place=p then eK A p++[l] else eK A p:=by
 rw[eK,List.filter_append,eK];by_cases h:l.place=p
 . rw[aF h];simp[h]
 . rw[ax h];simp[h]
def MR(f:aN)(M:Mem)(A:List aq)(p:h5)(v:V):Prop:=∃b ver,v=.an b ver 0 (eK A p).length/\M[b]? =I (.aj 13 ((eK A p).map (aq.row f)) ver 0)/\0<(eK A p).length
def nG(M:Mem)(v:V)(O:List cx):Prop:=(v=.slice [] .nil/\O=[])∨∃b ver,v=.an b ver 0 O.length/\M[b]? =I (.aj 7 (O.map cx.row) ver 0)/\0<O.length
def hr(n:ak)(q:aG)(m h:Nat)(o:V):au:=.box [.slice (n.aB.map Stop.row) n.ij,.slice (n.ey.map ec.row) n.rc,.slice (n.ar.map aV.row) n.jx,.slice (n.bj.map b1.row) n.lc,.slice (n.bw.map bb.row) n.la,
 .slice (n.bQ.bU.map cv.row) n.bQ.tag,aa n.bQ.hG,aa n.bQ.e4,aa n.bQ.kf,
 aa q.src,aa q.dst,aa q.aM,.bool q.hE,aa q.aY,aa q.bD,.bool q.bH,.bool q.na,aa q.dn,.bool q.hc,.map m,.ptr h 0,o]
structure om(ap:aN)(M:Mem)(m:Nat)(A:List aq)(E:List (h5×V)):Prop where
 map:M[m]? =I (.map (bX lH E))
 vF:(E.map (·.1)).Nodup
 eV:∀e∈E,MR ap M A e.1 e.2
 all:∀l∈A,l.place∈E.map (·.1)
structure bW(n:ak)(q:aG)(ap:aN)(f h:Nat)(A Q:List aq)(O:List cx)(M:Mem):Prop where
 box:∃m o E,M[f]? =I (hr n q m h o)/\nG M o O/\om ap M m A E
 nj:kl ap M h Q
def dq(f h:Nat)(M b:Mem):Prop:=∀(i:Nat)(a:List V),M[i]? =I (.box a)->i≠f->i≠h->b[i]? =I (.box a)
def dq.refl(f h:Nat)(M:Mem):dq f h M M:=λ_ _ h _ _=>h
def dq.trans{f h:Nat}{M c d:Mem}(a:dq f h M c)(b:dq f h c d):dq f h M d:=λi B j e g=>b i B (a i B j e g) e g
def dq.a1(f h:Nat)(M L:Mem):dq f h M (M++L):=λi B a _ _=>a0 a L
def dq.xG{f h:Nat}{M b:Mem}(a:ev h M b):dq f h M b:=λi g c _ d=>a i _ c d (by intro _ _ _ e;cases e)
def dq.len{f h:Nat}{M b:Mem}(a:dq f h M b):True:=trivial
def NB(M a:Mem):Prop:=∀(i:Nat)(B:au),M[i]? =I B->(∀b,B≠.box b)->a[i]? =I B
def nG.cj{M a:Mem}{v:V}{O:List cx}(H:nG M v O)(f:∀(i:Nat) R ver,M[i]? =I (au.aj 7 R ver 0)->a[i]? =I (au.aj 7 R ver 0)):nG a v O:=by
 rcases H with h|⟨b,ver,c,d,e⟩
 . exact .inl h
 . exact .inr ⟨b,ver,c,f _ _ _ d,e⟩
def om.cj{ap:aN}{M a:Mem}{m:Nat}{A:List aq}{E:List (h5×V)}(H:om ap M m A E)(c:a[m]? =M[m]?)(f:∀(i:Nat) R ver,M[i]? =I (au.aj 13 R ver 0)->a[i]? =I (au.aj 13 R ver 0)):om ap a m A E:=
 ⟨c.trans H.map,H.vF,λe d=>by obtain⟨b,ver,aD,ba,bA⟩:=H.eV e d;exact⟨b,ver,aD,f _ _ _ ba,bA⟩,H.all⟩
def bW.cj{n:ak}{q:aG}{ap:aN}{f h:Nat}{A Q:List aq}{O:List cx}{M b:Mem}(H:bW n q ap f h A Q O M)(l:b[f]? =M[f]?)(p:b[h]? =M[h]?)(c:NB M b):bW n q ap f h A Q O b:=by
 obtain⟨⟨m,o,E,g,j,d⟩,k⟩:=H;refine⟨⟨m,o,E,l.trans g,j.cj λi R ver a=>c _ _ a (by intro _ e;cases e),d.cj ?_ λi R ver a=>c _ _ a (by intro _ e;cases e)⟩,k.cj p λi R ver a=>?_⟩
 . rw[c _ _ d.map (by intro _ e;cases e),d.map]
 . rw[c _ _ a (by intro _ e;cases e),a]
def bW.a1{n:ak}{q:aG}{ap:aN}{f h:Nat}{A Q:List aq}{O:List cx}{M:Mem}(H:bW n q ap f h A Q O M)(L:Mem):bW n q ap f h A Q O (M++L):=by
 obtain⟨m,o,E,b,_⟩:=H.box;have d:h<M.length:=by
  obtain⟨c,⟨aD,_⟩|⟨a,ver,l,g,aD,_⟩⟩:=H.nj
  . exact(az.1 aD).1
  . exact(az.1 aD.h).1
 exact H.cj (by rw[a0 b L,b]) (by rw[et d]) λi B e _=>a0 e L
def bW.qc{n:ak}{q:aG}{ap:aN}{f h:Nat}{A Q:List aq}{O:List cx}{M:Mem}(H:bW n q ap f h A Q O M){i:Nat}{b:List V}(j:M[i]? =I (.box b))(c:i≠f)(d:i≠h)(B:au):bW n q ap f h A Q O (M.set i B):=
 H.cj (by rw[bo c]) (by rw[bo d]) λk C a g=>by rw[bo λe=>by subst e;rw[j] at a;cases a;exact g b rfl];exact a
def dq.qc{f h i:Nat}{M N:Mem}(a:dq f h M N)(e:M.length<=i)(B:au):dq f h M (N.set i B):=λk C b c d=>by have:=(az.1 b).1;rw[bo J];exact a k C b c d
def bW.qG{n:ak}{q:aG}{ap:aN}{f h:Nat}{A Q:List aq}{O:List cx}{M:Mem}(H:bW n q ap f h A Q O M):f≠h/\f<M.length/\h<M.length:=by
 obtain⟨m,o,E,b,_⟩:=H.box;have d:=(az.1 b).1;obtain⟨c,⟨aD,_⟩|⟨a,ver,l,g,aD,_⟩⟩:=H.nj
 . exact⟨(λe=>by rw[e,aD] at b;cases b),d,(az.1 aD).1⟩
 . exact⟨(λe=>by rw[e,aD.h] at b;cases b),d,(az.1 aD.h).1⟩
def ga(l:aq):Prop:=(∀r∈l.bf,r.wf)/\l.bf.length<=8
def lr(a b:aq):Prop:=a.aM<=b.aM/\a.aY<=b.aY/\a.bD<=b.bD
def Qv(ap:aN)(o:ap.wf)(p:ap.Ok)(a b:aq)(f:ga a)(g:ga b):bq aH 136 [.agg (a.row ap),.agg (b.row ap)] (λv=>∃t:Bool,v=.bool t/\(t=U->lr a b)/\(lr a b->tg ap a.bf b.bf->t=U)):=by
 have n:=M2 ap o p a.bf b.bf f.1 f.2 g.1 g.2;have k:∀l:aq,(l.row ap)[8]? =I (aa l.aM):=λ_=>rfl;have m:∀l:aq,(l.row ap)[9]? =I (aa l.aY):=λ_=>rfl;have i:∀l:aq,(l.row ap)[10]? =I (aa l.bD):=λ_=>rfl;have j:∀l:aq,(l.row ap)[11]? =I (e5 ap l.bf):=λ_=>rfl;refine bB H1 (bN @aq.len k ?_);apply cF<;>intro c
 . refine ah ?_;exact⟨ad,rfl,by simp,λh=>aJ h.1 c⟩
 refine aL m ?_;apply cF<;>intro d
 . refine ah ?_;exact⟨ad,rfl,by simp,λh=>aJ h.2.1 d⟩
 refine aL i ?_;apply cF<;>intro e
 . refine ah ?_;exact⟨ad,rfl,by simp,λh=>aJ h.2.2 e⟩
 refine aL j ?_;refine d2 n ?_ (by simp only[cd,xf];rfl);rintro v ⟨t,rfl,q⟩;refine ah ?_;exact⟨t,rfl,λ_=>⟨c,d,e⟩,λ_=>q⟩
def uH(ap:aN)(M:Mem)(A:List aq)(p:h5)(v:V):Prop:=(v=.slice [] .nil/\eK A p=[])∨∃b ver,v=.an b ver 0 (eK A p).length/\M[b]? =I (.aj 13 ((eK A p).map (aq.row ap)) ver 0)
theorem IF{α:Type}[DecidableEq α]{x:α}:∀{E:List (α×V)}{v:V},eX x E=I v->(x,v)∈E
 |[],v,h=>by simp[eX] at h
 |e::E,v,h=>by
  simp only[eX,List.find?_cons] at h;by_cases a:x=e.1
  . rw[be a] at h;simp only[jE,aC] at h;rw[<-h,a];exact ft ..
  . rw[decide_eq_false a] at h;exact fs _ (IF h)
theorem IG{α:Type}[DecidableEq α]{x:α}:∀{E:List (α×V)},eX x E=ag->∀e∈E,e.1≠x
 |[],_,e,b=>by cases b
 |e::E,h,q,al=>by
  simp only[eX,List.find?_cons] at h;by_cases a:x=e.1
  . rw[be a] at h;cases h
  . rw[decide_eq_false a] at h;rcases fI.1 al with rfl|al
    . exactλe=>a e.symm
    . exact IG h q al
theorem om.look{ap:aN}{M:Mem}{m:Nat}{A:List aq}{E:List (h5×V)}(H:om ap M m A E)(p:h5):∃v,uH ap M A p v/\
 ∀L,lJ (.cells [.int,.int,.int,.int,.int,.int,.int,.int]) [.slice [] .nil] ad ad (.map m) (lH p) (M++L)=I v:=by
 have c:=t0 Ap (.slice [] .nil) ad p E;cases a:eX p E with
 |none=>rw[a] at c;refine⟨.slice [] .nil,.inl ⟨rfl,?_⟩,λL=>by simp only[AB,a0 H.map L,c]⟩;rw[eK,List.filter_eq_nil_iff];intro l f g;obtain⟨e,d,h⟩:=gY.1 (H.all l f);exact IG a e d (h.trans (of_decide_eq_true g))
 |some v=>rw[a] at c;obtain⟨b,ver,aD,ba,_⟩:=H.eV _ (IF a);exact⟨v,.inr ⟨b,ver,aD,ba⟩,λL=>by simp only[AB,a0 H.map L,c]⟩
def C1:V->Nat->V
 |.an b ver _ _,i=>.df b ver i 0
 |_,_=>.undef
def uH.len{ap:aN}{M:Mem}{A:List aq}{p:h5}{v:V}(H:uH ap M A p v)(L:Mem):eY v (M++L)=I (aa (eK A p).length):=by
 rcases H with⟨rfl,h⟩|⟨b,ver,rfl,h⟩
 . rw[h];rfl
 . exact jZ (a0 h L)
def uH.ay{ap:aN}{M:Mem}{A:List aq}{p:h5}{v:V}(H:uH ap M A p v){i:Nat}{o:aq}(a:(eK A p)[i]? =I o)(L:Mem):
 d8 13 v (aa (i:Int)) (M++L)=I (C1 v i)/\dZ 13 U (C1 v i) (M++L)=I (.agg (o.row ap)):=by
 rcases H with⟨rfl,h⟩|⟨b,ver,rfl,h⟩
 . rw[h] at a;simp at a
 . have c:=(az.1 a).1;exact⟨e2 (a0 h L) c (by simp),lI (a0 h L) (by rw[dK,a];rfl) (aq.len ap o)⟩
def y0{A:List aq}{p:h5}{o:aq}(h:o∈eK A p):o∈A/\o.place=p:=by obtain⟨a,b⟩:=jf.1 h;exact⟨a,of_decide_eq_true b⟩
def PB{n:ak}{q:aG}{ap:aN}{f h:Nat}{A Q:List aq}{O:List cx}{M:Mem}(H:bW n q ap f h A Q O M)(ab:ap.wf)(av:ap.Ok)(W:∀o∈A,ga o)(l:aq)(aj:ga l)(e:A.length<=1000000000000)(R:V->Mem->Prop)
 (aB:∀G o,o∈A->o.place=l.place->lr o l->R (.tuple []) (M++G))
 (ao:∀G,(∀o∈A,o.place=l.place->lr o l->¬tg ap o.bf l.bf)->ck aH zn (iT vh.results (k1 R)) [(0,.ptr f 0),(3,.ptr M.length 0)] (M++.box (l.row ap)::G)):
 dN aH vh [.ptr f 0,.agg (l.row ap)] M R:=by
 obtain⟨m,o,E,S,aE,T⟩:=H.box;obtain⟨v,r,am⟩:=T.look l.place;have y:=λL=>a0 S L;have Y:∀(K:Mem)(B:au),(K++[B])[K.length]? =I B:=λK B=>by simp
 have aF:∀(K:Mem)(B X:au),(K++[B]).set K.length X=K++[X]:=λK B X=>by simp
 have aD:(l.row ap).take 8=l.place.row:=rfl;have ai:V.agg l.place.row=lH l.place:=rfl;simp only[hr] at y;simp only[dN];have an:=r.len;have aI:(eK A l.place).length<=A.length:=lZ _ _;refine oe @b5 @aq.len Y y aD ai am an ?_;generalize c:eK A l.place=b at*;refine c6 b (λi u N=>∃G,u=[.ptr f 0,.ptr M.length 0,v,aa b.length,aa i]/\N=M++.box (l.row ap)::G/\∀(k:Nat)(o:aq),k<i->b[k]? =I o->lr o l->¬tg ap o.bf l.bf) ⟨[],rfl,rfl,λ_ _ h=>aJ h (c9 _)⟩ ?_ ?_;rotate_left
 . rintro u N ⟨G,rfl,rfl,d⟩;refine aL @bV ?_;refine ao G λo a aw=>?_;obtain⟨k,j⟩:=eb (show o∈b from c▸jf.2 ⟨a,be aw⟩);exact d k o (az.1 j).1 j
 rintro i o u N a ae aS ⟨G,rfl,rfl,d⟩;obtain⟨C,ar⟩:=y0 (A:=A) (p:=l.place) (c▸bI a);have af:=λL=>(r.ay (by rw[c];exact a) L).1;have al:=λL=>(r.ay (by rw[c];exact a) L).2;have Z:=Qv ap ab av o l (W o C) aj;have D:∀L:Mem,(M++.box (l.row ap)::L)[M.length]? =I (.box (l.row ap)):=λL=>by rw[cE];rfl
 have F:∀(B:au),(M++.box (l.row ap)::(G++[B]))[M.length+(G.length+1)]? =I B:=λB=>by rw[fW];simp
 have P:∀(B X:au),(M++.box (l.row ap)::(G++[B])).set (M.length+(G.length+1)) X=M++.box (l.row ap)::(G++[X]):=λB X=>by rw[ju];simp
 have aC:∀l:aq,(l.row ap).take 13=l.row ap:=λ_=>rfl;refine od aS af al @cS.{0} D F P @aq.len @aq.cell @ug aC ?_;refine d2 Z ?_ (by simp only[cd,V.under,aq.under];rfl);rintro w ⟨t,rfl,ax,aA⟩;refine ah ?_;apply dt<;>intro g
 . refine ah ?_;exact aB _ o C ar (ax g)
 . refine ah ?_;refine bE ae ⟨_,rfl,rfl,λk x j s e z=>?_⟩;rcases eT k i with h|h
   . exact d k x h s e z
   . obtain rfl:k=i:=J;rw[a] at s;cases s;rw[aA e z] at g;cases g
theorem ab5{ap:aN}{a b:aq}(h:a.row ap=b.row ap):a.place=b.place:=by obtain⟨⟨k,s,r,c,⟨x,y,z,m⟩⟩,_⟩:=a;obtain⟨⟨p,u,t,o,⟨v,w,A,q⟩⟩,_⟩:=b;simp only[aq.row,List.cons.injEq,V.int.injEq,true_and] at h;obtain⟨d,e,f,g,i,j,l,n,_⟩:=h;subst d e f g i j l n;rfl
def Qs{ap:aN}{M:Mem}{A:List aq}{p d:h5}{b:Nat}{ver k:Nat}(j:M[b]? =I (.aj 13 ((eK A p).map (aq.row ap)) ver 0))(e:M[b]? =I (.aj 13 ((eK A d).map (aq.row ap)) k 0))(l:0<(eK A p).length):p=d:=by
 rw[j] at e;have i:(eK A p).map (aq.row ap)=(eK A d).map (aq.row ap):=by simp only[aC,au.aj.injEq] at e;exact e.2.1
 obtain⟨a,g⟩:∃a,(eK A p)[0]? =I a:=⟨(eK A p)[0],by simp⟩;have m:(eK A p).length=(eK A d).length:=by have:=congrArg List.length i;simpa using this
 obtain⟨c,h⟩:∃c,(eK A d)[0]? =I c:=⟨(eK A d)[0]'J,by simp⟩;have f:=congrArg (·[0]?) i;simp only[dK,g,h,jE,aC] at f;rw[<-(y0 (bI g)).2,<-(y0 (bI h)).2,ab5 f]
def rI(m:Nat)(M a:Mem):Prop:=∀(i:Nat)(B:au),M[i]? =I B->i≠m->(∀R ver b,B≠.aj 13 R ver b)->a[i]? =I B
theorem om.put{ap:aN}{M:Mem}{m:Nat}{A:List aq}{E:List (h5×V)}(H:om ap M m A E)(l:aq)(aZ:A.length+1<=1000000000000):
 ∃v0 i O w K L aw,p1 (.cells [.int,.int,.int,.int,.int,.int,.int,.int]) (.slice [] .nil) (.map m) (lH l.place) M=I (.tuple [v0,aa i],O)/\
  cw ad 13 120 v0 (.slice [l.row ap] .full) O=I (w,K)/\r6 (.map m) (aa i) w K=I (.undef,L)/\om ap L m (A++[l]) aw/\rI m M L/\rI m M O/\rI m M K:=by
 have am:m<M.length:=(az.1 H.map).1;cases S:E.findIdx? (λe=>decide (e.1=l.place)) with
 |none=>
  have F:∀e∈E,e.1≠l.place:=λe d=>by rw[List.findIdx?_eq_none_iff] at S;simpa using S e d
  have R:eK A l.place=[]:=by rw[eK,List.filter_eq_nil_iff];intro o h Z;obtain⟨e,d,aU⟩:=gY.1 (H.all o h);exact F e d (aU.trans (of_decide_eq_true Z))
  have C:=Tu (z:=.slice [] .nil) Ap H.map F;have ak:(M.set m (.map (bX lH (E++[(l.place,.slice [] .nil)]))))[m]? =I (.map (bX lH (E++[(l.place,.slice [] .nil)]))):=bY am;have ay:∀X,rI m M (M.set m X):=λX i B n f _=>by rw[bo (cA f)];exact n
  have aQ:(M.set m (.map (bX lH (E++[(l.place,.slice [] .nil)])))).length=M.length:=cW;have y:=ay (.map (bX lH (E++[(l.place,.slice [] .nil)])));have ar:∀(i:Nat)(B:au),i≠m->M[i]? =I B->(M.set m (.map (bX lH (E++[(l.place,.slice [] .nil)]))))[i]? =I B:=λi B f n=>by rw[bo (cA f)];exact n
  generalize M.set m (.map (bX lH (E++[(l.place,.slice [] .nil)])))=N at C ak aQ y ar;have D:cw ad 13 120 (.slice [] .nil) (.slice [l.row ap] .full) N=I (.an N.length 0 0 1,N++[.aj 13 [l.row ap] 0 0]):=by simp only[cw,dg,dP,aq.len,beq_self_eq_true,bi,eU];rfl
  have Y:=a0 ak [.aj 13 [l.row ap] 0 0];have aL:(E++[(l.place,V.slice [] .nil)])[E.length]? =I (l.place,.slice [] .nil):=by simp
  have G:=EF (w:=.an N.length 0 0 1) Y aL rfl;have aA:(E++[(l.place,V.slice [] .nil)]).set E.length (l.place,.an N.length 0 0 1)=E++[(l.place,.an N.length 0 0 1)]:=by rw[l1,ax J,hA];rfl
  rw[aA] at G;have aR:m<(N++[au.aj 13 [l.row ap] 0 0]).length:=by rw[b0];omega
  have fin:∀(i:Nat)(B:au),i≠m->N[i]? =I B->((N++[au.aj 13 [l.row ap] 0 0]).set m (.map (bX lH (E++[(l.place,.an N.length 0 0 1)]))))[i]? =I B:=λi B f n=>by rw[bo (cA f)];exact a0 n _
  refine⟨_,_,_,_,_,_,_,C,D,G,⟨bY aR,?_,?_,?_⟩,λi B n f s=>fin i B f (y i B n f s),y,λi B n f s=>a0 (y i B n f s) _⟩
  . rw[iL,List.nodup_append];refine⟨H.vF,by simp,?_⟩;intro a aB c aI;obtain⟨e,d,rfl⟩:=gY.1 aB;have:c=l.place:=by simpa using aI
    rw[this];exact F e d
  . intro e d;rcases dv.1 d with d|d
    . obtain⟨b,ver,aD,ba,bA⟩:=H.eV e d;have t:l.place≠e.1:=λq=>F e d q.symm;have x:b≠m:=λq=>by rw[q,H.map] at ba;cases ba
      refine⟨b,ver,?_,?_,?_⟩
      . rw[py,ax t];exact aD
      . rw[py,ax t];exact fin b _ x (ar b _ x ba)
      . rw[py,ax t];exact bA
    . have:e=(l.place,.an N.length 0 0 1):=by simpa using d
      subst this;refine⟨N.length,0,?_,?_,?_⟩
      . rw[py,aF rfl,R];rfl
      . rw[py,aF rfl,R,bo J,cE];rfl
      . rw[py,aF rfl,R];exact Nat.zero_lt_one
  . intro o h;rw[iL];rcases dv.1 h with h|h
    . exact je _ (H.all o h)
    . rw[dV.1 h];exact iq _ (by simp)
 |some i=>
  obtain⟨aM,ah,aE⟩:=List.findIdx?_eq_some_iff_getElem.1 S;obtain⟨⟨p,v⟩,d⟩:∃e,E[i]? =I e:=⟨E[i],by simp⟩;have Z:p=l.place:=by rw[(az.1 d).2] at ah;exact of_decide_eq_true ah
  subst Z;have al:=bI d;obtain⟨b,ver,aD,ba,bA⟩:=H.eV _ al;simp only at aD ba bA;subst aD;have x:b≠m:=λq=>by rw[q,H.map] at ba;cases ba
  have aG:b<M.length:=(az.1 ba).1;have aS:∀(k:Nat)(e:h5×V),k<i->E[k]? =I e->e.1≠l.place:=λk e aO aP=>by have:=aE k aO;rw[(az.1 aP).2] at this;simpa using this
  have C:=Tt (z:=.slice [] .nil) Ap H.map d aS;have a1:(eK A l.place).length<=A.length:=lZ _ _;have D:=md (bytes:=120) (r:=l.row ap) ba (cz _) (aq.len ap l) J;have aT:(eK A l.place).map (aq.row ap)++[l.row ap]=(eK (A++[l]) l.place).map (aq.row ap):=by rw[py,aF rfl];simp
  have ao:(eK A l.place).length+1=(eK (A++[l]) l.place).length:=by rw[py,aF rfl];simp
  rw[aT,ao] at D;have Y:(M.set b (.aj 13 ((eK (A++[l]) l.place).map (aq.row ap)) (ver+1) 0))[m]? =I (.map (bX lH E)):=by rw[bo x];exact H.map
  have G:=EF (w:=.an b (ver+1) 0 (eK (A++[l]) l.place).length) Y d rfl;have af:rI m M (M.set b (.aj 13 ((eK (A++[l]) l.place).map (aq.row ap)) (ver+1) 0)):=λj B g f s=>by rw[bo λq=>by subst q;rw[ba] at g;cases g;exact s _ _ _ rfl];exact g
  have ai:(E.set i (l.place,V.an b (ver+1) 0 (eK (A++[l]) l.place).length)).map (·.1)=E.map (·.1):=by
   rw[List.map_set];have:(E.map (·.1))[i]? =I l.place:=by rw[dK,d];rfl
   obtain⟨av,u⟩:=az.1 this;rw[<-u,List.set_getElem_self]
  refine⟨_,_,_,_,_,_,_,C,D,G,⟨bY (by rw[cW];exact am),by rw[ai];exact H.vF,?_,?_⟩,λj B g f s=>by rw[bo (cA f)];exact af j B g f s,λj B g _ _=>g,af⟩
  . intro e aK;obtain⟨j,g⟩:=eb aK;by_cases T:i=j
    . subst T;rw[bY aM] at g;cases g;refine⟨b,ver+1,rfl,?_,by rw[<-ao];omega⟩;rw[bo (cA x),bY aG]
    . rw[bo T] at g;have aJ:=bI g;have t:l.place≠e.1:=λq=>by
       have aV:(E.map (·.1))[j]? =I l.place:=by rw[dK,g];exact congrArg I q.symm
       have aW:(E.map (·.1))[i]? =I l.place:=by rw[dK,d];rfl
       obtain⟨ab,ae⟩:=az.1 aV;obtain⟨c1,c2⟩:=az.1 aW;rcases Nat.lt_or_gt_of_ne T with W|W
       . exact List.pairwise_iff_getElem.1 H.vF i j c1 ab W (c2.trans ae.symm)
       . exact List.pairwise_iff_getElem.1 H.vF j i ab c1 W (ae.trans c2.symm)
      have Q:eK (A++[l]) e.1=eK A e.1:=by rw[py,ax t]
      obtain⟨P,aY,av,u,aX⟩:=H.eV e aJ;have aC:b≠P:=λq=>by subst q;exact t (Qs ba u bA)
      have aH:P≠m:=λq=>by rw[q,H.map] at u;cases u
      refine⟨P,aY,?_,?_,?_⟩
      . rw[Q];exact av
      . rw[Q,bo (cA aH),bo aC];exact u
      . rw[Q];exact aX
  . intro o h;rw[ai];rcases dv.1 h with h|h
    . exact H.all o h
    . rw[dV.1 h];exact gY.2 ⟨_,al,rfl⟩
def rI.box{m:Nat}{M c:Mem}{E:List (V×V)}(a:rI m M c)(f:M[m]? =I (.map E)){i:Nat}{d:List V}(b:M[i]? =I (.box d)):c[i]? =I (.box d):=
 a i _ b (λe=>by rw[e,f] at b;cases b) (by intro _ _ _ e;cases e)
def PC{n:ak}{q:aG}{ap:aN}{f h:Nat}{A Q:List aq}{O:List cx}{N:Mem}(H:bW n q ap f h A Q O N)(l:aq){C:Nat}(B:N[C]? =I (.box (l.row ap)))(M:A.length+1<=1000000000000)(P:Q.length+1<=1000000000000)(R:V->Mem->Prop)
 (S:∀a8,bW n q ap f h (A++[l]) (Q++[l]) O a8->dq f h N a8->R (.tuple []) a8):
 ck aH zn (iT vh.results (k1 R)) [(0,.ptr f 0),(3,.ptr C 0)] N:=by
 obtain⟨⟨m,o,E,k,K,x⟩,u⟩:=H;obtain⟨v0,i,ai,w,af,t,D,J,F,G,p,d,am,al⟩:=x.put l M;have g:=x.map;have Y:=d.box g B;have z:=d.box g k;have s:kl ap t h Q:=by
  refine u.cj ?_ λj R ver b=>?_
  . obtain⟨c,⟨aD,_⟩|⟨a,ver,l,r,aD,_⟩⟩:=u
    . rw[d.box g aD,aD]
    . rw[d.box g aD.h,aD.h]
  . rw[d j _ b (λe=>by rw[e,g] at b;cases b) (by intro _ _ _ e;cases e),b]
 have L:nG t o O:=K.cj λj R ver b=>d j _ b (λe=>by rw[e,g] at b;cases b) (by intro _ _ _ e;cases e);have Z:=Pj s l P;have W:dq f h N t:=λj aj b _ _=>d.box g b;have ae:(l.row ap).take 8=l.place.row:=rfl;have ab:(l.row ap).take 13=l.row ap:=rfl;have X:V.agg l.place.row=lH l.place:=rfl;have y:=k;simp only[hr] at y;have T:=z;have an:∀c:Int,e6 [v0,v0,v0,v0,v0,v0,v0,v0,v0,v0,v0,.db,.slice [] .nil] 0 (l.row ap)=l.row ap:=λ_=>rfl;simp-implicitDefEqProofs (disch:=omega) only[go_sem,↓aX 22,↓aX 24,↓aX 25,b5,y,B,aq.len,aq.pure,ae,ab,X,ug,J,F,G,T,Y];refine ch Z ?_;rintro v a8 ⟨rfl,aa,bh⟩;refine ah ?_;refine S a8 ⟨⟨m,o,D,bh _ _ z (λe=>?_) (by intro _ _ _ e;cases e),L.cj λj R ver b=>bh j _ b (λe=>?_) (by intro _ _ _ e;cases e),p.cj ?_ λj R ver b=>bh j _ b (λe=>?_) (by intro _ _ _ e;cases e)⟩,aa⟩ (W.trans (dq.xG bh))
 . obtain⟨c,⟨aD,_⟩|⟨a,ver,l,r,aD,_⟩⟩:=u
   . rw[e,aD] at k;cases k
   . rw[e,aD.h] at k;cases k
 . obtain⟨c,⟨aD,_⟩|⟨a,ver,l,r,aD,_⟩⟩:=s
   . rw[e,aD] at b;cases b
   . rw[e,aD.h] at b;cases b
 . rw[bh _ _ p.map (λe=>?_) (by intro _ _ _ e;cases e),p.map];obtain⟨c,⟨aD,_⟩|⟨a,ver,l,r,aD,_⟩⟩:=s
   . rw[<-e,p.map] at aD;cases aD
   . have ba:=aD.h;rw[<-e,p.map] at ba;cases ba
 . obtain⟨c,⟨aD,_⟩|⟨a,ver,l,r,aD,_⟩⟩:=s
   . rw[e,aD] at b;cases b
   . rw[e,aD.h] at b;cases b
def lq(ap:aN)(A Q:List aq)(l:aq)(a b:List aq):Prop:=(a=A/\b=Q/\∃o∈A,o.place=l.place/\lr o l)∨(a=A++[l]/\b=Q++[l]/\∀o∈A,o.place=l.place->lr o l->¬tg ap o.bf l.bf)
def eI(ap:aN):List aq->List aq->List aq->List aq->List aq->Prop
 |A,Q,[],a,b=>a=A/\b=Q
 |A,Q,l::e,a,b=>∃c d,lq ap A Q l c d/\eI ap c d e a b
def lq.len{ap:aN}{A Q a b:List aq}{l:aq}(h:lq ap A Q l a b):a.length<=A.length+1/\b.length<=Q.length+1:=by
 rcases h with⟨rfl,rfl,_⟩|⟨rfl,rfl,_⟩
 . exact⟨J,J⟩
 . exact⟨by simp,by simp⟩
def lq.all{ap:aN}{A Q b d:List aq}{l:aq}(h:lq ap A Q l b d){P:aq->Prop}(c:∀o∈A,P o)(e:P l):∀o∈b,P o:=by
 rcases h with⟨rfl,rfl,_⟩|⟨rfl,rfl,_⟩
 . exact c
 . intro o a;rcases dv.1 a with a|a
   . exact c o a
   . rw[dV.1 a];exact e
def lq.xX{ap:aN}{A Q d b:List aq}{l:aq}(h:lq ap A Q l d b){P:aq->Prop}(c:∀o∈Q,P o)(e:P l):∀o∈b,P o:=by
 rcases h with⟨rfl,rfl,_⟩|⟨rfl,rfl,_⟩
 . exact c
 . intro o a;rcases dv.1 a with a|a
   . exact c o a
   . rw[dV.1 a];exact e
theorem eI.len{ap:aN}:∀{e A Q c d:List aq},eI ap A Q e c d->c.length<=A.length+e.length/\d.length<=Q.length+e.length
 |[],A,Q,c,d,h=>by obtain⟨rfl,rfl⟩:=h;exact⟨bk _,bk _⟩
 |l::e,A,Q,c,d,⟨i,j,f,g⟩=>by have a:=f.len;have b:=eI.len g;simp only[cc];omega
theorem eI.all{ap:aN}{P:aq->Prop}:∀{b A Q c e:List aq},eI ap A Q b c e->(∀o∈A,P o)->(∀o∈b,P o)->∀o∈c,P o
 |[],_,_,_,_,h,a,_=>by obtain⟨rfl,rfl⟩:=h;exact a
 |l::b,_,_,_,_,⟨_,_,f,g⟩,a,d=>eI.all g (f.all a (d l (ft ..))) λo i=>d o (fs _ i)
theorem eI.xX{ap:aN}{P:aq->Prop}:∀{b A Q e c:List aq},eI ap A Q b e c->(∀o∈Q,P o)->(∀o∈b,P o)->∀o∈c,P o
 |[],_,_,_,_,h,a,_=>by obtain⟨rfl,rfl⟩:=h;exact a
 |l::b,_,_,_,_,⟨_,_,f,g⟩,a,d=>eI.xX g (f.xX a (d l (ft ..))) λo i=>d o (fs _ i)
theorem eI.a1{ap:aN}:∀{e f A Q b d a c:List aq},eI ap A Q e b d->eI ap b d f a c->eI ap A Q (e++f) a c
 |[],_,_,_,_,_,_,_,h,k=>by obtain⟨rfl,rfl⟩:=h;exact k
 |_::_,_,_,_,_,_,_,_,⟨g,i,j,l⟩,k=>⟨g,i,j,eI.a1 l k⟩
def eI.one{ap:aN}{A Q a b:List aq}{l:aq}(h:lq ap A Q l a b):eI ap A Q [l] a b:=⟨a,b,h,rfl,rfl⟩
def Br{n:ak}{q:aG}{ap:aN}{f h:Nat}{A Q:List aq}{O:List cx}{M:Mem}(H:bW n q ap f h A Q O M)(p:ap.wf)(t:ap.Ok)(i:∀o∈A,ga o)(l:aq)(r:ga l)(m:A.length+1<=1000000000000)(k:Q.length+1<=1000000000000):
 bx aH 71 [.ptr f 0,.agg (l.row ap)] M (λv b=>v=.tuple []/\dq f h M b/\∃a c,bW n q ap f h a c O b/\lq ap A Q l a c):=by
 refine dX H4 ?_;refine PB H p t i l r J _ (λG o d e g=>⟨rfl,dq.a1 f h M G,A,Q,H.a1 G,.inl ⟨rfl,rfl,o,d,e,g⟩⟩) λG s=>?_;refine PC (H.a1 _) l (by rw[cE];rfl) m k _ λa8 j bh=>?_;exact⟨rfl,(dq.a1 f h M _).trans bh,_,_,j,.inr ⟨rfl,rfl,s⟩⟩
def B_(a:List a7)(c:cg)(x:a7)(p:a.length<=1000):bq aH 168 [.slice (a.map a7.row) c,.agg x.row] (λv=>v=.slice ((a++[x]).map a7.row) .bF):=by
 refine bB Is ?_;have l:∀(zero:List V)(M:Mem),jq zero 9 72 v0 (aa ((a.length:Int)+1)) M=I (.an M.length 0 0 0,M++[.aj 9 [] 0 0]):=λzero M=>by have d:decide ((0:Int)<=0)=U:=rfl;have e:decide ((0:Int)<=(a.length:Int)+1)=U:=bR;have g:decide (((a.length:Int)+1)*((72:Nat):Int)<=2^48)=U:=bR;have h:decide ((a.length:Int)+1<2^62)=U:=bR;simp only[jq,d,e,g,h,cR,bi];rfl
 have j:decide (a.length*144<=2^48)=U:=bR;have o:decide ((a.length+1)*144<=2^48)=U:=bR;have k:=pS (f:=a7.row) (n:=9) (λ_=>rfl) a;have i:∀B:au,cw ad 9 72 (.an 1 0 0 0) (.slice (a.map a7.row) c) [B,.aj 9 [] 0 0]=I (.an 1 1 0 a.length,[B,.aj 9 (a.map a7.row) 1 0]):=λB=>by simp only[Da,k,bi,List.getElem?_cons_succ,hg,beq_self_eq_true,eu,cR,dm,cz,Nat.reduceMul,j,eH];rfl
 have b:∀B:au,cw ad 9 72 (.an 1 1 0 a.length) (.slice [x.row] .full) [B,.aj 9 (a.map a7.row) 1 0]=I (.an 1 2 0 (a.length+1),[B,.aj 9 ((a++[x]).map a7.row) 2 0]):=λB=>by rw[iL];exact md rfl (cz _) rfl J
 have m:((a++[x]).map a7.row).take (a.length+1)=(a++[x]).map a7.row:=eS (by simp);have q:decide (a.length+1<=((a++[x]).map a7.row).length)=U:=be (by simp);simp only[a7.row] at b;refine d0 @a7.row.eq_1 l i b ?_;rw[m]
def A2(n:ak)(q:aG)(l:aq):cx:=⟨l.bz,.bF,(iA n q l.bz).1,(iA n q l.bz).2.1,.bF⟩
def oL(n:ak)(q:aG)(l:aq):List cx:=if(iA n q l.bz).2.2=0 then[A2 n q l] else[]
def nG.put{M:Mem}{v:V}{O:List cx}(H:nG M v O)(o:cx)(l:O.length+1<=1000000000000):∃b ver c,cw ad 7 88 v (.slice [o.row] .full) M=I (.an b ver 0 (O.length+1),c)/\nG c (.an b ver 0 (O.length+1)) (O++[o])/\
 ∀(i:Nat)(B:au),M[i]? =I B->(∀R ver f,B≠.aj 7 R ver f)->c[i]? =I B:=by
 rcases H with⟨rfl,rfl⟩|⟨b,ver,rfl,d,k⟩
 . refine⟨_,_,_,?_,.inr ⟨M.length,0,rfl,cE M [.aj 7 [o.row] 0 0],Nat.zero_lt_one⟩,λi B a _=>a0 a _⟩;have j:(o.row.length==7)=U:=rfl;simp only[cw,dg,dP,j,bi,eU];rfl
 . have h:=md (bytes:=88) (r:=o.row) d (cz _) rfl J;refine⟨_,_,_,h,.inr ⟨b,ver+1,by rw[b0];rfl,?_,by simp⟩,λi B a g=>?_⟩
   . rw[bY (az.1 d).1,iL];rfl
   . rw[bo λe=>by subst e;rw[d] at a;cases a;exact g _ _ _ rfl];exact a
def ys:a7:=⟨ad,0,0,0,0,0,0,0,ad⟩
def acb{n:ak}{q:aG}{ap:aN}{f h:Nat}{A Q:List aq}{O:List cx}{M:Mem}(H:bW n q ap f h A Q O M)(an:n.wf)(ok:di n)(l:aq)(V:l.bz.length<=1000)(ao:∀x∈l.bz,x.wf)(af:O.length+1<=1000000000000):
 bx aH 142 [.ptr f 0,.agg (l.row ap)] M (λv F=>v=.tuple []/\dq f h M F/\bW n q ap f h A Q (O++oL n q l) F):=by
 obtain⟨⟨m,o,E,u,K,w⟩,P⟩:=H;have aA:=(az.1 u).1;have z:=B_ l.bz l.tag ys V;have s:=MZ n q l.bz .bF an ok V ao;have W:∀N,eQ 9 (.slice ((l.bz++[ys]).map a7.row) .bF) ag (I (aa (l.bz.length:Nat))) ag N=I (.slice (l.bz.map a7.row) .bF):=λN=>by rw[acI 9 _ _ _ _ _ J (by simp;omega) (pS (f:=a7.row) (λ_=>rfl) _)];simp[kp]
 have G:(l.row ap)[12]? =I (.slice (l.bz.map a7.row) l.tag):=rfl;have t:=λL=>a0 u L;have eL:=λL=>cE M L;have c1:=λL=>fW M L;have aw:=λL=>iJ M L;have D:=λL=>ju M L;simp only[hr] at t;simp only[ak.row,aG.row] at s;simp only[ys,a7.row] at z;refine dX Ib ?_;simp only[dN];refine lk (aX 11) @aq.len eL G ?_;refine nO z ?_;simp only[ys] at W;simp-implicitDefEqProofs (disch:=omega) only[go_sem,eL,c1,D,cS,G,W];refine⟨⟨bq.call z rfl λx B _=>⟨B,rfl⟩,λh=>by cases h⟩,?_⟩;have aj:oL n q l=if(iA n q l.bz).2.2=0 then[⟨l.bz,.bF,(iA n q l.bz).1,(iA n q l.bz).2.1,.bF⟩] else[]:=rfl
 rw[aj];generalize iA n q l.bz=r at s⊢;refine v6 (aX 5) (aX 10) @b5 t c1 ?_;refine nO s ?_;simp only[uY,lu.row] at s;simp-implicitDefEqProofs (disch:=omega) only[go_sem,b5,t,c1,D,cS,uY,lu.row];refine⟨⟨bq.call s rfl λx B _=>⟨B,rfl⟩,λh=>by cases h⟩,?_⟩;refine fE (aX 9) ?_;apply cF<;>intro g
 . refine ah ?_;rw[ax g,ez];exact⟨dq.a1 f h M _,(bW.a1 ⟨⟨m,o,E,u,K,w⟩,P⟩ _)⟩
 rw[aF g];have ai:wR r=.bF:=aF g;rw[ai];obtain⟨N,j⟩:∃N,N=M++[au.box (l.row ap),.box [.slice (l.bz.map a7.row) .bF],.box [aa r.1.aR,aa r.1.aQ,aa r.1.aY,aa r.1.sd,aa r.1.bD]]:=⟨_,rfl⟩;rw[<-j];have ar:N[M.length+1]? =I (.box [.slice (l.bz.map a7.row) .bF]):=by rw[j,c1];rfl
 have av:N[M.length+2]? =I (.box [aa r.1.aR,aa r.1.aQ,aa r.1.aY,aa r.1.sd,aa r.1.bD]):=by rw[j,c1];rfl
 have C:N[f]? =I (hr n q m h o):=by rw[j];exact a0 u _
 have Y:dq f h M N:=by rw[j];exact dq.a1 f h M _
 have ae:nG N o O:=K.cj λi R ver b=>by rw[j];exact a0 b _
 have y:om ap N m A E:=w.cj (by rw[j,a0 w.map,w.map]) λi R ver b=>by rw[j];exact a0 b _
 have S:kl ap N h Q:=by rw[j];exact P.a1 _
 clear j t eL c1 aw D;obtain⟨aB,aC,a8,T,ab,bh⟩:=ae.put ⟨l.bz,.bF,r.1,r.2.1,.bF⟩ af;have k:=bh _ _ C (by intro _ _ _ e;cases e);simp only[hr] at C k;simp only[cx.row] at T;have al:f<a8.length:=(az.1 k).1;simp-implicitDefEqProofs (disch:=omega) only[go_sem,↓aX 7,b5,C,ar,av,T,k];have Z:dq f h N a8:=λi X b _ _=>bh i _ b (by intro _ _ _ e;cases e);refine⟨Y.trans (Z.trans λi X b am _=>by rw[bo (cA am)];exact b),⟨m,_,E,bY al,ab.cj λi R ver b=>?_,y.cj ?_ λi R ver b=>?_⟩,S.cj ?_ λi R ver b=>?_⟩
 . rw[bo (λe=>by subst e;rw[k] at b;cases b)];exact b
 . have d:=bh _ _ y.map (by intro _ _ _ e;cases e);rw[bo (λe=>by subst e;rw[k] at d;cases d),d,y.map]
 . have p:=bh _ _ b (by intro _ _ _ e;cases e);rw[bo (λe=>by subst e;rw[k] at p;cases p)];exact p
 . obtain⟨c,⟨aD,_⟩|⟨a,ver,l,ay,aD,_⟩⟩:=S
   . have d:=bh _ _ aD (by intro _ _ _ e;cases e);rw[bo (λe=>by subst e;rw[k] at d;cases d),d,aD]
   . have d:=bh _ _ aD.h (by intro _ _ _ e;cases e);rw[bo (λe=>by subst e;rw[k] at d;cases d),d,aD.h]
 . have p:=bh _ _ b (by intro _ _ _ e;cases e);rw[bo (λe=>by subst e;rw[k] at p;cases p),p,b]
def mF(n:ak)(i k:Int):Bool:=n.bj.any λx=>x.aT&&(decide (x.src=i)&&decide (x.fg=k))
def aI.hz(r:aI)(z:Int):aI:={r with er:=lN .i64 r.er ((2^z.toNat:Nat):Int)}
def aI.fA(r:aI)(z:Int):aI:={r with dn:=lN .i64 r.dn ((2^z.toNat:Nat):Int)}
def aI.at(n:ak)(bl:aI)(c:aZ):aI:={bl.hz (lm n c.stop) with aQ:=c.aQ}
def p9(i b:Nat)(aT:Bool)(B c:aZ)(k:Nat):a7:=⟨U,i,b,k,B.stop,c.stop,B.aR,c.aQ,aT⟩
def jw(l:aq)(i b:Nat)(aT:Bool)(B c:aZ)(k:Nat)(bl:aI):aq:=
 {l with place:=⟨1,c.stop,i,k,bl⟩,aM:=c.aQ,bz:=l.bz++[p9 i b aT B c k],tag:=.bF}
def il(n:ak)(l:aq)(i b:Nat)(aT:Bool)(B:aZ):List aZ->Nat->aI->List aq
 |[],_,_=>[]
 |c::a,k,bl=>(if c.ct||mF n i k then[jw l i b aT B c k (bl.at n c)] else[])++il n l i b aT B a (k+1) (bl.at n c)
def pa(n:ak)(r:aV)(B:aZ)(bl:aI):aI:=(bl.fA (oX n r.gJ)).hz (lm n B.stop)
def fR(n:ak)(l:aq)(i b:Nat)(aT:Bool)(bl:aI):List aq:=match n.ar[i]? with
 |some r=>match r.aO[b]? with
  |some B=>il n l i b aT B (r.aO.drop (b+1)) (b+1) (pa n r B bl)
  |none=>[]
 |none=>[]
def nH(M N:Mem):Prop:=∃G,N=M++G
def nH.refl(M:Mem):nH M M:=⟨[],by simp⟩
def nH.a1{M N:Mem}(h:nH M N)(L:Mem):nH M (N++L):=by obtain⟨G,rfl⟩:=h;exact⟨G++L,cS ..⟩
def ac4{n:ak}{q:aG}{ap:aN}{f h:Nat}{A Q:List aq}{O:List cx}{M:Mem}(H:bW n q ap f h A Q O M)(J:n.bj.length<=100000)(i k:Int):
 bx aH 217 [.ptr f 0,aa i,aa k] M (λv w=>v=.bool (mF n i k)/\nH M w):=by
 obtain⟨m,o,E,t,F,G⟩:=H.box;have y:=λL=>a0 t L;have u:=t;simp only[hr] at y u;have e:∀(K:Mem)(B:au),(K++[B])[K.length]? =I B:=λK B=>by simp
 have z:∀(K:Mem)(B X:au),(K++[B]).set K.length X=K++[X]:=λK B X=>by simp
 refine dX Ik ?_;simp only[dN];refine bN @b5 u ?_;refine c6 n.bj (λj r N=>((n.bj.take j).any λx=>x.aT&&(decide (x.src=i)&&decide (x.fg=k)))=ad/\r=[aa i,aa k,.slice (n.bj.map b1.row) n.lc,aa n.bj.length,aa j]/\nH M N) ⟨rfl,rfl,nH.refl M⟩ ?_ ?_;rotate_left
 . rintro r N ⟨c,rfl,a⟩;rw[f_] at c;refine aL @bV ?_;exact⟨c.symm,a⟩
 rintro j x r N p g C ⟨c,rfl,a⟩;have l:((n.bj.take (j+1)).any λx=>x.aT&&(decide (x.src=i)&&decide (x.fg=k)))=(x.aT&&(decide (x.src=i)&&decide (x.fg=k))):=by rw[gM,p,List.any_append,c];simp
 have D:(x.aT&&(decide (x.src=i)&&decide (x.fg=k)))=U->mF n i k=U:=λh=>List.any_eq_true.2 ⟨x,bI p,h⟩;refine es C p @b1.row.eq_1 e z ?_;apply cU<;>intro b
 . refine ah ?_;exact bE g ⟨by rw[l,b];rfl,rfl,a.a1 _⟩
 refine aL e ?_;apply cF<;>intro d
 . refine ah ?_;exact bE g ⟨by rw[l,b,decide_eq_false d];rfl,rfl,a.a1 _⟩
 refine aL e ?_;apply aW<;>intro s
 . refine ah ?_;exact⟨(D (by rw[b,be d,be s];rfl)).symm,a.a1 _⟩
 . refine ah ?_;exact bE g ⟨by rw[l,b,be d,decide_eq_false s];rfl,rfl,a.a1 _⟩
def BC(z:Int)(e:0<=z)(f:z<=15):cT .shl .none (aa 1) (aa z)=I (aa ((2^z.toNat:Nat):Int)):=by
 have d:2^z.toNat<=2^15:=Nat.pow_le_pow_right J J;have a:∀w:Nat,w<=2^15->IntKind.i64.wrap (w:Int)=(w:Int):=λw a=>kH _ J J;have a:=a _ d;show lT .shl .i64 1 z=_;unfold lT;rw[h8];have b:min z.toNat IntKind.i64.bits=z.toNat:=by show min z.toNat 64=z.toNat;omega
 have c:(1:Int)*2^z.toNat=((2^z.toNat:Nat):Int):=by simp
 simp only[eE,b,c,a]
def wP{n:ak}(ok:di n){i k:Nat}{r:aV}{c:aZ}(e:n.ar[i]? =I r)(d:r.aO[k]? =I c):∃s,n.aB[c.stop.toNat]? =I s/\0<=c.stop/\0<=s.hz/\s.hz<=15/\lm n c.stop=s.hz/\dS n c.stop=s.change/\0<=s.change/\s.change<=3600:=by obtain⟨b,f⟩:=((ok.ok.ar.2 i r e).2.2.2.2.2.1.2.2 k c d).1;obtain⟨s,ae⟩:∃s,n.aB[c.stop.toNat]? =I s:=⟨n.aB[c.stop.toNat]'J,by simp⟩;have a:=ok.ok.aB.2 _ s ae;exact⟨s,ae,b,a.2.1.1,a.2.1.2,by simp only[lm,ae],by simp only[dS,ae],a.2.2.1.1,a.2.2.1.2⟩
def ab0{n:ak}(ok:di n){i:Nat}{r:aV}(d:n.ar[i]? =I r):∃y,n.ey[r.gJ.toNat]? =I y/\0<=r.gJ/\0<=y.fA/\y.fA<=7/\oX n r.gJ=y.fA:=by obtain⟨c,e⟩:=(ok.ok.ar.2 i r d).2.2.2.2.1;obtain⟨y,a⟩:∃s,n.ey[r.gJ.toNat]? =I s:=⟨n.ey[r.gJ.toNat]'J,by simp⟩;have b:=ok.ok.ey.2 _ y a;exact⟨y,a,c,b.2.1.1,b.2.1.2,by simp only[oX,a]⟩
def By{M:Mem}{i k:Nat}(h:k≠i)(X:au)(L:Mem)(a:i<M.length):(M.set i X++L)[k]? =(M++L)[k]? :=by rw[<-kh a,bo (cA h)]
def L7{n:ak}{q:aG}{ap:aN}{f h:Nat}{A Q:List aq}{O:List cx}{N:Mem}(H:bW n q ap f h A Q O N)(an:ap.wf)(ar:ap.Ok)(ae:∀o∈A,ga o)(l:aq)(ao:ga l)(aA:l.bz.length+1<=1000)
 {i b k:Nat}{r:aV}{B c:aZ}(af:r.aO[b]? =I B)(aT:Bool)(d:aI)(al:A.length+1<=1000000000000)(am:Q.length+1<=1000000000000){a K:Nat}(bd:N[a]? =I (.box (l.row ap)))(aD:N[a+1]? =I (.box d.row))(ba:N[a+2]? =I (.box r.row))(V:N[K]? =I (.box c.row))
 (s:av)(x:aE s 0=.ptr f 0)(D:aE s 2=aa i)(E:aE s 3=aa b)(F:aE s 4=.bool aT)(G:aE s 7=.ptr a 0)(y:aE s 11=.ptr (a+1) 0)(z:aE s 12=.ptr (a+2) 0)(C:aE s 13=aa k)(W:aE s 14=.ptr K 0)
 (P:Exit->av->Mem->Prop)(ai:∀a8 g j,bW n q ap f h g j O a8->dq f h N a8->lq ap A Q (jw l i b aT B c k d) g j->P .normal [(0,.ptr f 0),(2,aa i),(3,aa b),(4,.bool aT),(7,.ptr a 0),(11,.ptr (a+1) 0),(12,.ptr (a+2) 0),(13,aa k)] a8):
 ck aH DE P s N:=by
 have Z:=λL=>a0 bd L;have R:=λL=>a0 aD L;have S:=λL=>a0 ba L;have gc:=λL=>a0 V L;have M:=λL=>cE N L;have X:=λL=>iJ N L;have T:=B_ l.bz l.tag (p9 i b aT B c k) J;have ab:(l.row ap)[12]? =I (.slice (l.bz.map a7.row) l.tag):=rfl;have aB:l.row ap=[aa l.place.cP,aa l.place.stop,aa l.place.run,aa l.place.cl,aa l.place.bl.aR,aa l.place.bl.aQ,aa l.place.bl.er,aa l.place.bl.dn,
  aa l.aM,aa l.aY,aa l.bD,e5 ap l.bf,.slice (l.bz.map a7.row) l.tag]:=rfl;have ay:(l.row ap).take 13=l.row ap:=rfl;simp only[aI.row] at R aD;simp only[aV.row] at S ba;simp only[aZ.row] at gc V;simp only[p9,a7.row] at T;obtain⟨m,t⟩:∃m:aq,m={l with place:=⟨1,c.stop,i,k,d⟩}:=⟨_,rfl⟩;obtain⟨p,u⟩:∃p:aq,p={l with place:=⟨1,c.stop,i,k,d⟩,aM:=c.aQ}:=⟨_,rfl⟩;obtain⟨e,w⟩:∃e:aq,e=jw l i b aT B c k d:=⟨_,rfl⟩;have aw:((((((((l.row ap).set 0 (aa 1)).set 1 (aa c.stop)).set 2 (aa i)).set 3 (aa k)).set 4 (aa d.aR)).set 5 (aa d.aQ)).set 6 (aa d.er)).set 7 (aa d.dn)=m.row ap:=by rw[t];rfl
 have ax:(m.row ap).set 8 (aa c.aQ)=p.row ap:=by rw[t,u];rfl
 have Y:(p.row ap).set 12 (.slice ((l.bz++[p9 i b aT B c k]).map a7.row) .bF)=e.row ap:=by rw[u,w];rfl
 have ah:ga e:=by rw[w];exact ao
 simp only[p9] at Y;have az:(e.row ap).take 13=e.row ap:=rfl;clear t u;simp-implicitDefEqProofs (disch:=omega) only[go_sem,↓aX 21,↓aX 23,↓aX 25,↓aX 27,↓aX 30,↓aX 31,↓aX 32,↓aX 33,x,D,E,F,G,y,z,C,W,bd,Z,R,S,gc,M,X,aq.len,aq.cell,ug,ay,aw,ax,ab,af,aZ.row];refine bG T ?_;simp-implicitDefEqProofs (disch:=omega) only[go_sem,↓aX 29,x,D,E,F,G,y,z,C,W,M,X,aq.len,Y,az];refine ch (Br (H.a1 _) an ar ae e ah al am) ?_;rintro v a8 ⟨rfl,bh,g,j,au,aj⟩;refine oe x D E F G y z C ?_;exact ai a8 g j au ((dq.a1 f h N _).trans bh) (w▸aj)
theorem yd{n:ak}{q:aG}{ap:aN}{f h:Nat}{A Q:List aq}{O:List cx}{M:Mem}(H:bW n q ap f h A Q O M)(ok:di n)(a7:ap.wf)(a9:ap.Ok)(bt:∀o∈A,ga o)(l:aq)(aE:ga l)(a8:l.bz.length+1<=1000)
 {i b:Nat}{r:aV}{B:aZ}(ai:n.ar[i]? =I r)(Z:r.aO[b]? =I B)(aT:Bool)(bl:aI)(a3:A.length+(fR n l i b aT bl).length<=1000000000000)(a4:Q.length+(fR n l i b aT bl).length<=1000000000000):
 bx aH 201 [.ptr f 0,.agg (l.row ap),aa i,aa b,.bool aT,.agg bl.row] M (λv aS=>v=.tuple []/\dq f h M aS/\∃w C,bW n q ap f h w C O aS/\eI ap A Q (fR n l i b aT bl) w C):=by
 obtain⟨m,o,E,an,b6,b7⟩:=H.box;obtain⟨ca,cb,cc⟩:=H.qG;have aA:=λL=>a0 an L;simp only[hr] at aA;have eL:=λL=>cE M L;have c1:=λL=>fW M L;have bU:=λL=>iJ M L;have bh:=λL=>ju M L;obtain⟨y,bK,ck,bX,cl,bZ⟩:=ab0 ok ai;obtain⟨bi,bD,cm,b1,b2,b3,_⟩:=wP ok ai Z;have bF:=BC y.fA bX J;have bG:=BC bi.hz b1 b2;have bB:=(ok.ok.ar.2 i r ai).2.2.2.2.2.1.2.1;have b8:=(az.1 Z).1;have bI:fR n l i b aT bl=il n l i b aT B (r.aO.drop (b+1)) (b+1) (pa n r B bl):=by simp only[fR,ai,Z]
 rw[bI] at a3 a4⊢;refine dX Im ?_;simp only[dN];simp-implicitDefEqProofs (disch:=omega) only[go_sem,b5,aq.len,aI.row,aA,c1,bh,cS,ai,aV.row,bK,ec.row,Z,aZ.row,bD,Stop.row,bF,bG];obtain⟨N,S⟩:∃N,N=M++[au.box (l.row ap),.box (pa n r B bl).row,.box r.row]:=⟨_,rfl⟩;have a_:pa n r B bl=⟨bl.aR,bl.aQ,lN .i64 bl.er ((2^bi.hz.toNat:Nat):Int),lN .i64 bl.dn ((2^y.fA.toNat:Nat):Int)⟩:=by simp only[pa,aI.hz,aI.fA,bZ,b3]
 have av:=S;rw[a_] at av;simp only[aI.row,aV.row] at av;rw[<-av];have bM:N[M.length]? =I (.box (l.row ap)):=by rw[S,eL];rfl
 have bN:N[M.length+1]? =I (.box (pa n r B bl).row):=by rw[S,c1];rfl
 have bO:N[M.length+2]? =I (.box r.row):=by rw[S,c1];rfl
 have bk:bW n q ap f h A Q O N:=by rw[S];exact H.a1 _
 have br:dq f h M N:=by rw[S];exact dq.a1 f h M _
 clear S av a_ aA eL c1 bU bh;generalize cf:M.length=a at*;generalize aC:il n l i b aT B (r.aO.drop (b+1)) (b+1) (pa n r B bl)=full at*;have b_:(r.aO.drop (b+1)).length=r.aO.length -(b+1):=kJ;have bv:∀(j:Nat)(c:aZ),(r.aO.drop (b+1))[j]? =I c->r.aO[b+1+j]? =I c:=λj c ax=>by rw[h2] at ax;exact ax
 generalize b9:r.aO.drop (b+1)=t at*;refine c6 t (λj aP N=>∃p s d,aP=[.ptr f 0,aa i,aa b,.bool aT,.ptr a 0,.ptr (a+1) 0,.ptr (a+2) 0,aa ((b+1+j:Nat):Int)]/\bW n q ap f h p s O N/\dq f h M N/\N[a]? =I (.box (l.row ap))/\N[a+1]? =I (.box (aI.row d))/\N[a+2]? =I (.box r.row)/\(∀o∈p,ga o)/\
  p.length+(il n l i b aT B (t.drop j) (b+1+j) d).length<=1000000000000/\s.length+(il n l i b aT B (t.drop j) (b+1+j) d).length<=1000000000000/\∀w C,eI ap p s (il n l i b aT B (t.drop j) (b+1+j) d) w C->eI ap A Q full w C)
  ⟨A,Q,pa n r B bl,rfl,bk,br,bM,bN,bO,bt,by rw[hN,g_,aC];exact a3,by rw[hN,g_,aC];exact a4,λw C a2=>by rw[hN,g_,aC] at a2;exact a2⟩ ?_ ?_;rotate_left
 . rintro aP e ⟨p,s,d,rfl,am,aB,bd,aD,ba,ao,D,g3,ab⟩;have bw:decide (((b+1+t.length:Nat):Int)<(r.aO.length:Int))=ad:=h8;simp only[aV.row] at ba;refine v5 (aX 11) ba bw ?_;rw[List.drop_length] at ab;exact⟨aB,p,s,am,ab p s ⟨rfl,rfl⟩⟩
 rintro j c aP e a5 ax cd ⟨p,s,d,rfl,am,aB,bd,aD,ba,ao,D,g3,ab⟩;have a6:=bv j c a5;obtain⟨ij,bE,b4,bn,bo,bp,_⟩:=wP ok ai a6;have bH:=BC ij.hz bn bo;have bA:decide (((b+1+j:Nat):Int)<(r.aO.length:Int))=U:=bR;have bJ:il n l i b aT B (t.drop j) (b+1+j) d=(if c.ct||mF n i (b+1+j:Nat) then[jw l i b aT B c (b+1+j) (d.at n c)] else[])++il n l i b aT B (t.drop (j+1)) (b+1+(j+1)) (d.at n c):=by rw[qC a5];rfl
 rw[bJ] at D g3 ab;generalize ce:b+1+j=k at*;have aj:b+1+(j+1)=k+1:=J;rw[aj] at D g3 ab;obtain⟨m,o,E,an,_⟩:=am.box;have af:a+1<e.length:=(az.1 aD).1;have cg:a+2<e.length:=(az.1 ba).1;have bm:=λL=>a0 bd L;have aU:=λL=>a0 aD L;have aW:=λL=>a0 ba L;have ay:=λL=>a0 an L;have bP:∀X L,(e++L).set (a+1) X=e.set (a+1) X++L:=λX L=>kh af L X;have be:∀X L,(e.set (a+1) X++L)[a+1]? =I X:=λX L=>a0 (bY af) L;have bQ:∀X Y L,(e.set (a+1) X++L).set (a+1) Y=e.set (a+1) Y++L:=λX Y L=>by rw[kh (by rw[cW];exact af),h3]
 have bT:∀X L,(e.set (a+1) X++L)[a]? =I (.box (l.row ap)):=λX L=>by rw[By J X L af];exact bm L
 have bg:∀X L,(e.set (a+1) X++L)[a+2]? =I (.box r.row):=λX L=>by rw[By J X L af];exact aW L
 have bS:∀X L,(e.set (a+1) X++L)[f]? =I (hr n q m h o):=λX L=>by rw[By J X L af];exact ay L
 have bf:∀X L,(e.set (a+1) X++L)[e.length]? =L[0]? :=λX L=>by have:=cE (e.set (a+1) X) L;rwa [cW] at this
 have cj:∀X L Y,(e.set (a+1) X++L).set e.length Y=e.set (a+1) X++L.set 0 Y:=λX L Y=>by have:=iJ (e.set (a+1) X) L Y;rwa [cW] at this
 have bs:=λL=>cE e L;have w0:=λL=>iJ e L;simp only[aV.row] at ba aW bg;simp only[hr] at ay bS an;have bL:=aD;simp only[aI.row] at aU bL;simp-implicitDefEqProofs (disch:=omega) only[go_sem,↓aX 11,↓aX 13,↓aX 15,↓aX 17,↓aX 19,ba,bA,a6,aZ.row,aU,ay,bP,be,bQ,bf,bs,w0,b5,bE,Stop.row,bH];obtain⟨z,T⟩:∃z,z=e.set (a+1) (.box (d.at n c).row)++[au.box c.row]:=⟨_,rfl⟩;have bu:d.at n c=⟨d.aR,c.aQ,lN .i64 d.er ((2^ij.hz.toNat:Nat):Int),d.dn⟩:=by simp only[aI.at,aI.hz,bp]
 have aw:=T;rw[bu] at aw;simp only[aI.row,aZ.row] at aw;have al:bW n q ap f h p s O z:=by rw[T];exact(am.qc aD J J _).a1 _
 have bq:dq f h M z:=by rw[T];exact(aB.qc J _).trans (dq.a1 f h _ _)
 have aK:z[a]? =I (.box (l.row ap)):=by rw[T];exact bT _ _
 have aL:z[a+1]? =I (.box (d.at n c).row):=by rw[T];exact be _ _
 have aM:z[a+2]? =I (.box r.row):=by rw[T];exact bg _ _
 have bc:z[e.length]? =I (.box c.row):=by rw[T,bf];rfl
 have fin:∀u K P,bW n q ap f h K P O u->dq f h z u->eI ap p s (if c.ct||mF n i (k:Nat) then[jw l i b aT B c k (d.at n c)] else[]) K P->
  ∃bb,bb<t.length -j/\∃F,bb=t.length -F/\F<=t.length/\∃p s d,[V.ptr f 0,aa i,aa b,.bool aT,.ptr a 0,.ptr (a+1) 0,.ptr (a+2) 0,aa ((k:Int)+1)]=[.ptr f 0,aa i,aa b,.bool aT,.ptr a 0,.ptr (a+1) 0,.ptr (a+2) 0,aa ((b+1+F:Nat):Int)]/\
   bW n q ap f h p s O u/\dq f h M u/\u[a]? =I (.box (l.row ap))/\u[a+1]? =I (.box (aI.row d))/\u[a+2]? =I (.box r.row)/\(∀o∈p,ga o)/\
   p.length+(il n l i b aT B (t.drop F) (b+1+F) d).length<=1000000000000/\s.length+(il n l i b aT B (t.drop F) (b+1+F) d).length<=1000000000000/\∀w C,eI ap p s (il n l i b aT B (t.drop F) (b+1+F) d) w C->eI ap A Q full w C:=by
  intro u K P ae R W;have bB:=W.len;rw[b0] at D g3;refine⟨t.length -(j+1),J,j+1,rfl,ax,K,P,d.at n c,by rw[aj];rfl,ae,bq.trans R,R _ _ aK J J,R _ _ aL J J,R _ _ aM J J,?_,by rw[aj];omega,by rw[aj];omega,λw C aY=>?_⟩
  . refine W.all ao ?_;intro x aJ;split at aJ
    . rw[dV.1 aJ];exact aE
    . cases aJ
  . rw[aj] at aY;exact ab w C (W.a1 aY)
 rw[b0] at D g3;apply dt<;>intro g
 . refine ah ?_;rw[<-aw];have aF:(if c.ct||mF n i (k:Nat) then[jw l i b aT B c k (d.at n c)] else[])=[jw l i b aT B c k (d.at n c)]:=by rw[g,Bool.true_or];rfl
   rw[aF] at D g3 fin;simp only[hP] at D g3;refine L7 al a7 a9 ao l aE a8 Z aT (d.at n c) J J aK aL aM bc _ rfl rfl rfl rfl rfl rfl rfl rfl rfl _ λu K P ae R W=>?_;refine ah ?_;exact .inl (fin u K P ae R (eI.one W))
 refine ah ?_;rw[<-aw];refine ch (ac4 al (fJ ok.bj J) (i:Int) (k:Int)) ?_;rintro v u ⟨rfl,G,rfl⟩;generalize ci:mF n (i:Int) (k:Int)=bV at*;cases bV with
 |false=>
  have bC:(if c.ct||ad then[jw l i b aT B c k (d.at n c)] else[])=[]:=by rw[g];rfl
  rw[bC] at fin;refine ah ?_;exact .inl (fin _ p s (al.a1 G) (dq.a1 f h z G) ⟨rfl,rfl⟩)
 |true=>
  refine ah ?_;have aF:(if c.ct||U then[jw l i b aT B c k (d.at n c)] else[])=[jw l i b aT B c k (d.at n c)]:=by rw[Bool.or_true];rfl
  rw[aF] at D g3 fin;simp only[hP] at D g3;refine L7 (al.a1 G) a7 a9 ao l aE a8 Z aT (d.at n c) J J (a0 aK G) (a0 aL G) (a0 aM G) (a0 bc G) _ rfl rfl rfl rfl rfl rfl rfl rfl rfl _ λu K P ae R W=>?_;refine ah ?_;exact .inl (fin u K P ae ((dq.a1 f h z G).trans R) (eI.one W))
def nD(n:ak)(q:aG)(ap:aN)(f h:Nat)(A Q:List aq)(O:List cx)(M:Mem)(L:List aq)(v:V)(b:Mem):Prop:=
 v=.tuple []/\dq f h M b/\∃a c,bW n q ap f h a c O b/\eI ap A Q L a c
def iY(l:aq)(i k:Int)(x:b1):Bool:=!x.aT&&(decide (l.place.cP=1)&&(decide (x.src=l.place.run)&&(decide (x.fg=l.place.cl)&&(decide (x.dst=i)&&decide (x.ea=k)))))
def oR(n:ak)(l:aq)(i k:Int):Bool:=n.bj.any (iY l i k)
def YM{n:ak}{q:aG}{ap:aN}{f h:Nat}{A Q:List aq}{O:List cx}{M:Mem}(H:bW n q ap f h A Q O M)(Z:n.bj.length<=100000)(l:aq)(i k:Int):
 bx aH 170 [.ptr f 0,.agg (l.row ap),aa i,aa k] M (λv D=>v=.bool (oR n l i k)/\nH M D):=by
 obtain⟨m,o,E,F,W,Y⟩:=H.box;have z:=λL=>a0 F L;simp only[hr] at z;have p:∀(K:Mem)(B:au),(K++[B])[K.length]? =I B:=λK B=>by simp
 have J:∀(K:Mem)(B X:au),(K++[B]).set K.length X=K++[X]:=λK B X=>by simp
 refine dX Ie ?_;simp only[dN];refine b6 @b5 z @aq.len ?_;refine c6 n.bj (λj y N=>(n.bj.take j).any (iY l i k)=ad/\y=[aa i,aa k,.ptr M.length 0,.slice (n.bj.map b1.row) n.lc,aa n.bj.length,aa j]/\nH (M++[.box (l.row ap)]) N) ⟨rfl,rfl,nH.refl _⟩ ?_ ?_;rotate_left
 . rintro y N ⟨s,rfl,G,rfl⟩;rw[f_] at s;simp-implicitDefEqProofs (disch:=omega) only[go_sem,↓aX 5,↓aX 25,bV];exact⟨s.symm,_,cS ..⟩
 rintro j x y N w d P ⟨s,rfl,a⟩;have e:(n.bj.take (j+1)).any (iY l i k)=iY l i k x:=by rw[gM,w,List.any_append,s];simp
 have V:iY l i k x=U->oR n l i k=U:=λh=>List.any_eq_true.2 ⟨x,bI w,h⟩;have u:∀L,(N++L)[M.length]? =I (.box (l.row ap)):=λL=>by obtain⟨G,rfl⟩:=a;rw[cS,cS,fH (bk _),hA];rfl
 have R:(l.row ap)[0]? =I (aa l.place.cP):=rfl;have S:(l.row ap)[2]? =I (aa l.place.run):=rfl;have T:(l.row ap)[3]? =I (aa l.place.cl):=rfl;simp-implicitDefEqProofs (disch:=omega) only[go_sem,↓aX 5,↓aX 8,↓aX 13,P,w,b1.row,p,J];apply dt<;>intro b
 . refine fE (aX 17) ?_;exact bE d ⟨by rw[e,iY,b];rfl,rfl,a.a1 _⟩
 refine bN u R ?_;apply cF<;>intro c
 . refine fE (aX 17) ?_;exact bE d ⟨by rw[e,iY,b,decide_eq_false c];rfl,rfl,a.a1 _⟩
 refine b6 p u S ?_;apply cF<;>intro g
 . refine fE (aX 17) ?_;exact bE d ⟨by rw[e,iY,b,be c,decide_eq_false g];rfl,rfl,a.a1 _⟩
 refine b6 p u T ?_;apply cF<;>intro r
 . refine fE (aX 17) ?_;exact bE d ⟨by rw[e,iY,b,be c,be g,decide_eq_false r];rfl,rfl,a.a1 _⟩
 refine aL p ?_;apply cF<;>intro t
 . refine fE (aX 17) ?_;exact bE d ⟨by rw[e,iY,b,be c,be g,be r,decide_eq_false t];rfl,rfl,a.a1 _⟩
 refine aL p ?_;apply aW<;>intro C
 . refine ah ?_;obtain⟨G,rfl⟩:=a;exact⟨(V (by rw[iY,b,be c,be g,be r,be t,be C];rfl)).symm,_,by rw[cS,cS]⟩
 . refine fE (aX 17) ?_;exact bE d ⟨by rw[e,iY,b,be c,be g,be r,be t,decide_eq_false C];rfl,rfl,a.a1 _⟩
def ph(x:a7)(a:Int):a7:={x with aR:=x.aR+(a -x.aQ),aQ:=a}
def iD(l:aq)(a:Int):aq:=match l.bz with
 |[x]=>if x.bl=ad then{l with aY:=l.aY+1,bz:=[ph x a],tag:=.full} else{l with aY:=l.aY+1}
 |_=>{l with aY:=l.aY+1}
def fw(n:ak)(q:aG)(l:aq)(i k:Nat):List aq:=if l.aY=q.aY then[] else match(gR n i)[k]? with
 |some c=>fR n (iD l c.aR) i k ad ⟨c.aR,0,0,0⟩
 |none=>[]
def tj(x:a7):Prop:=(0<=x.aQ/\x.aQ<=3155932800)/\(-3155932800<=x.aQ -x.aR/\x.aQ -x.aR<=3155932800)
def hZ(M:Mem)(B X:au)(L:Mem):(M++B::L).set M.length X=M++X::L:=by simp
def Dt{n:ak}{q:aG}{ap:aN}{f h:Nat}{A Q:List aq}{O:List cx}{M:Mem}(H:bW n q ap f h A Q O M)(ok:di n)(W:ap.wf)(Z:ap.Ok)(T:∀o∈A,ga o)(l:aq)(X:ga l)(ai:l.bz.length+1<=1000)(aK:l.aY<=1000)(aI:0<=l.aY)(av:∀x∈l.bz,tj x)
 {i k:Nat}{r:aV}{c:aZ}(t:n.ar[i]? =I r)(s:r.aO[k]? =I c)(d:A.length+(fw n q l i k).length<=1000000000000)(e:Q.length+(fw n q l i k).length<=1000000000000):
 bx aH 171 [.ptr f 0,.agg (l.row ap),aa i,aa k] M (nD n q ap f h A Q O M (fw n q l i k)):=by
 obtain⟨m,o,E,am,aC,aD⟩:=H.box;have R:=λL=>a0 am L;have eL:=λL=>cE M L;have c1:=λL=>fW M L;have aj:=λL=>iJ M L;have ay:=λL=>ju M L;have ao:=(ok.ok.ar.2 i r t).2.2.2.2.2.1.2.2 k c s;have aE:0<=c.aR/\c.aR<=3155932800:=by have:=ao.2.1;omega
 simp only[hr] at R;have af:(l.row ap)[9]? =I (aa l.aY):=rfl;have au:gR n i=r.aO:=by simp only[gR,t]
 have aA:IntKind.i64.wrap (l.aY+1)=l.aY+1:=kH _ J J;simp only[fw,au,s] at d e⊢;refine dX H8 ?_;simp only[dN];refine es @b5 @aq.len R eL af ?_;apply aW<;>intro g
 . refine ah ?_;rw[aF g];exact⟨rfl,dq.a1 f h M _,A,Q,H.a1 _,rfl,rfl⟩
 rw[ax g] at d e⊢;obtain⟨a,b⟩:∃a:aq,a={l with aY:=l.aY+1}:=⟨_,rfl⟩;have az:(l.row ap).set 9 (aa (l.aY+1))=a.row ap:=by rw[b];rfl
 have y:(a.row ap)[12]? =I (.slice (l.bz.map a7.row) l.tag):=by rw[b];rfl
 have ab:∀l:aq,(l.row ap).take 13=l.row ap:=λ_=>rfl;simp-implicitDefEqProofs (disch:=omega) only[go_sem,↓aX 5,↓aX 7,b5,aq.len,R,eL,aj,af,t,aV.row,s,aZ.row,aA,az];have P:∀L,bW n q ap f h A Q O (M++L):=λL=>H.a1 L;have S:∀L,dq f h M (M++L):=λL=>dq.a1 f h M L;refine v5 (aX 20) eL y ?_;apply cF<;>intro p
 . have B:iD l c.aR=a:=by
    rw[b];unfold iD;match G:l.bz with
    |[]=>rfl
    |[x]=>rw[G] at p;exact aJ rfl p
    |_::_::_=>rfl
   rw[B] at d e⊢;refine lk (aX 22) eL @aq.len ab ?_;have V:ga a:=by rw[b];exact X
   have Y:a.bz.length+1<=1000:=by rw[b];exact ai
   refine ch (yd (P _) ok W Z T a V Y t s ad ⟨c.aR,0,0,0⟩ d e) ?_;rintro v N ⟨rfl,bh,u,w,C,z⟩;refine ah ?_;exact⟨rfl,(S _).trans bh,u,w,C,z⟩
 obtain⟨x,K⟩:∃x,l.bz=[x]:=by
  match G:l.bz with
  |[]=>rw[G] at p;cases p
  |[x]=>exact⟨x,rfl⟩
  |_::_::_=>rw[G] at p;simp only[cc] at p;omega
 have D:=av x (by rw[K];exact dV.2 rfl);rw[K] at y;simp only[gg,jD] at y;refine b6 eL y @a7.row.eq_1 ?_;apply dt<;>intro ae
 . have B:iD l c.aR=a:=by
    rw[b];unfold iD;rw[K];show(if x.bl=ad then _ else _)=_;rw[ax (by rw[ae];exact kI)]
   rw[B] at d e⊢;refine lk (aX 22) eL @aq.len ab ?_;have V:ga a:=by rw[b];exact X
   have Y:a.bz.length+1<=1000:=by rw[b];exact ai
   refine ch (yd (P _) ok W Z T a V Y t s ad ⟨c.aR,0,0,0⟩ d e) ?_;rintro v N ⟨rfl,bh,u,w,C,z⟩;refine ah ?_;exact⟨rfl,(S _).trans bh,u,w,C,z⟩
 obtain⟨j,F⟩:∃j:aq,j={l with aY:=l.aY+1,bz:=[ph x c.aR],tag:=.full}:=⟨_,rfl⟩;have B:iD l c.aR=j:=by rw[F];unfold iD;rw[K];show(if x.bl=ad then _ else _)=_;rw[aF ae]
 rw[B] at d e⊢;have al:(a.row ap).set 12 (.slice [(ph x c.aR).row] .full)=j.row ap:=by rw[b,F];rfl
 have dD:IntKind.i64.wrap (c.aR -x.aQ)=c.aR -x.aQ:=kH _ (by obtain⟨⟨_,_⟩,_,_⟩:=D;omega) (by obtain⟨⟨_,_⟩,_,_⟩:=D;omega);have aB:IntKind.i64.wrap (x.aR+(c.aR -x.aQ))=x.aR+(c.aR -x.aQ):=kH _ (by obtain⟨⟨_,_⟩,_,_⟩:=D;omega) (by obtain⟨⟨_,_⟩,_,_⟩:=D;omega);simp only[ph,a7.row] at al;simp-implicitDefEqProofs (disch:=omega) only[go_sem,↓aX 9,↓aX 11,↓aX 13,↓aX 15,↓aX 22,eL,c1,aj,ay,y,dD,aB,al,ab,aq.len,cS,a7.row];have an:ga j:=by rw[F];exact X
 have aw:j.bz.length+1<=1000:=by rw[F];show 1+1<=1000;omega
 refine ch (yd (P _) ok W Z T j an aw t s ad ⟨c.aR,0,0,0⟩ d e) ?_;rintro v N ⟨rfl,bh,u,w,C,z⟩;refine ah ?_;exact⟨rfl,(S _).trans bh,u,w,C,z⟩
structure oq(l:aq):Prop where
 lw:ga l
 bz:l.bz.length+1<=1000
 Bf:0<=l.aY
 Bg:l.aY<=1000
 oQ:∀x∈l.bz,tj x
 aM:0<=l.aM/\l.aM<=3155932800
 bD:0<=l.bD/\l.bD<=86400
def dw(n:ak)(q:aG)(ap:aN)(f h:Nat)(A Q:List aq)(O:List cx)(gO:Mem)(full cJ:List aq)(N:Mem):Prop:=
 ∃a b,bW n q ap f h a b O N/\dq f h gO N/\(∀o∈a,ga o)/\a.length+cJ.length<=1000000000000/\b.length+cJ.length<=1000000000000/\∀c d,eI ap a b cJ c d->eI ap A Q full c d
section
variable{n:ak}{q:aG}{ap:aN}{f h:Nat}{A Q:List aq}{O:List cx}{gO M N a8:Mem}{full cJ L:List aq}
def dw.a1(H:dw n q ap f h A Q O gO full cJ N)(G:Mem):dw n q ap f h A Q O gO full cJ (N++G):=by obtain⟨a,b,ae,bh,c⟩:=H;exact⟨a,b,ae.a1 G,bh.trans (dq.a1 f h N G),c⟩
def dw.start(H:bW n q ap f h A Q O N)(b:∀o∈A,ga o)(a:A.length+full.length<=1000000000000)(g3:Q.length+full.length<=1000000000000):dw n q ap f h A Q O N full full N:=
 ⟨A,Q,H,dq.refl f h N,b,a,g3,λ_ _ h=>h⟩
def dw.done(H:dw n q ap f h A Q O gO full [] N)(bh:dq f h M gO):nD n q ap f h A Q O M full (.tuple []) N:=by obtain⟨a,b,ae,c,_,_,_,d⟩:=H;exact⟨rfl,bh.trans c,a,b,ae,d a b ⟨rfl,rfl⟩⟩
def dw.call{i:Nat}{args:List V}{K:V->Mem->Prop}(H:dw n q ap f h A Q O gO full (L++cJ) N)(s:∀x∈L,ga x)
 (t:∀a b,bW n q ap f h a b O N->(∀o∈a,ga o)->a.length+L.length<=1000000000000->b.length+L.length<=1000000000000->bx aH i args N (nD n q ap f h a b O N L))
 (u:∀a8,dq f h N a8->dw n q ap f h A Q O gO full cJ a8->K (.tuple []) a8):@nA aH i args N ⟨K⟩:=by
 obtain⟨a,b,ae,bh,e,m,g3,r⟩:=H;rw[b0] at m g3;refine ch (t a b ae e J J) ?_;rintro v a8 ⟨rfl,d,j,l,w,c⟩;have y:=c.len;exact u a8 d ⟨j,l,w,bh.trans d,c.all e s,J,J,λg k p=>r g k (c.a1 p)⟩
def dw.nil(H:dw n q ap f h A Q O gO full ([]++cJ) N):dw n q ap f h A Q O gO full cJ N:=H
def dw.st(H:dw n q ap f h A Q O gO full cJ N):∃a b,bW n q ap f h a b O N/\dq f h gO N:=by obtain⟨a,b,ae,bh,_⟩:=H;exact⟨a,b,ae,bh⟩
end
theorem LZ{n:ak}{l:aq}{i b:Nat}{aT:Bool}{B:aZ}:∀{d:List aZ}{k:Nat}{bl:aI},∀x∈il n l i b aT B d k bl,x.bf=l.bf
 |[],_,_,x,a=>by cases a
 |c::d,k,bl,x,a=>by
  rcases dv.1 a with a|a
  . split at a
    . rw[dV.1 a];rfl
    . cases a
  . exact LZ x a
def yc{n:ak}{l:aq}{i b:Nat}{aT:Bool}{bl:aI}:∀x∈fR n l i b aT bl,x.bf=l.bf:=by
 intro x a;unfold fR at a;split at a
 . split at a
   . exact LZ x a
   . cases a
 . cases a
theorem Uh(l:aq)(d:Int):(iD l d).bf=l.bf:=by
 unfold iD;split
 . split<;>rfl
 . rfl
def wJ{n:ak}{q:aG}{l:aq}{i k:Nat}:∀x∈fw n q l i k,x.bf=l.bf:=by
 intro x a;unfold fw at a;split at a
 . cases a
 . split at a
   . rw[yc x a,Uh]
   . cases a
def ga.bf{a b:aq}(h:ga a)(e:b.bf=a.bf):ga b:=by unfold ga;rw[e];exact h
def m1(n:ak)(l:aq)(t:Int)(r:aV)(i k:Nat)(c:aZ):Bool:=
 !r.ds&&(c.cM&&(decide (c.stop=l.place.stop)&&(!decide (((k:Int)+1)=(r.aO.length:Int))&&(decide (t<=c.aR)||(decide (l.aM<=c.aR)&&oR n l i k)))))
def pA(n:ak)(q:aG)(l:aq)(t:Int)(r:aV)(i k:Nat)(c:aZ):List aq:=if m1 n l t r i k c then fw n q l i k else[]
def kS(n:ak)(q:aG)(l:aq)(t:Int)(r:aV)(i:Nat):List aZ->Nat->List aq
 |[],_=>[]
 |c::a,k=>pA n q l t r i k c++kS n q l t r i a (k+1)
def lA(n:ak)(q:aG)(l:aq)(t:Int):List aV->Nat->List aq
 |[],_=>[]
 |r::a,i=>kS n q l t r i r.aO 0++lA n q l t a (i+1)
def gD(n:ak)(q:aG)(l:aq)(t:Int):List aq:=lA n q l t n.ar 0
def QY{n:ak}{q:aG}{l:aq}{t:Int}{r:aV}{i k:Nat}{c:aZ}:∀x∈pA n q l t r i k c,x.bf=l.bf:=by
 intro x a;unfold pA at a;split at a
 . exact wJ x a
 . cases a
theorem y7{n:ak}{q:aG}{ap:aN}{f h:Nat}{A Q:List aq}{O:List cx}{M:Mem}(H:bW n q ap f h A Q O M)(ok:di n)(aI:ap.wf)(aP:ap.Ok)(aU:∀o∈A,ga o)(l:aq)(a:oq l)(t:Int)
 (aY:A.length+(gD n q l t).length<=1000000000000)(a2:Q.length+(gD n q l t).length<=1000000000000):
 bx aH 143 [.ptr f 0,.agg (l.row ap),aa t] M (nD n q ap f h A Q O M (gD n q l t)):=by
 obtain⟨m,o,E,aT,bk,bl⟩:=H.box;obtain⟨_,bo,bp⟩:=H.qG;have aB:=λL=>a0 aT L;have eL:=λL=>cE M L;simp only[hr] at aB;have af:∀(K:Mem)(B:au),(K++[B])[K.length]? =I B:=λK B=>by simp
 have aD:∀(K:Mem)(B X:au),(K++[B]).set K.length X=K++[X]:=λK B X=>by simp
 have ax:∀l:aq,(l.row ap).take 13=l.row ap:=λ_=>rfl;have a6:(l.row ap)[1]? =I (aa l.place.stop):=rfl;have a7:(l.row ap)[8]? =I (aa l.aM):=rfl;refine dX H7 ?_;simp only[dN];refine b6 @b5 aB @aq.len ?_;refine c6 n.ar (λj C N=>C=[.ptr f 0,aa t,.ptr M.length 0,.slice (n.ar.map aV.row) n.jx,aa n.ar.length,aa j]/\dw n q ap f h A Q O (M++[.box (l.row ap)]) (gD n q l t) (lA n q l t (n.ar.drop j) j) N)
  ⟨rfl,dw.start (H.a1 _) aU aY a2⟩ ?_ ?_;rotate_left
 . rintro C N ⟨rfl,ae⟩;rw[List.drop_length] at ae;refine pi (aX 5) @bV ?_;exact ae.done (dq.a1 f h M _)
 rintro i r C N S a3 aS ⟨rfl,ae⟩;rw[qC S] at ae;simp-implicitDefEqProofs (disch:=omega) only[go_sem,↓aX 5,↓aX 8,↓aX 10,aS,S,af,aD,aV.row];obtain⟨Z,P⟩:∃Z,Z=N++[.box r.row]:=⟨_,rfl⟩;have a8:dw n q ap f h A Q O (M++[.box (l.row ap)]) (gD n q l t) (kS n q l t r i r.aO 0++lA n q l t (n.ar.drop (i+1)) (i+1)) Z:=by rw[P];exact ae.a1 _
 have a5:Z[N.length]? =I (.box r.row):=by rw[P];exact af _ _
 obtain⟨aQ,aR⟩:N.length≠f/\N.length≠h:=by obtain⟨ay,aA,V,_⟩:=ae;obtain⟨_,bm,bn⟩:=V.qG;exact⟨J,J⟩
 simp only[aV.row] at P;rw[<-P];clear P;generalize N.length=p at*;have br:=(ok.ok.ar.2 i r S).2.2.2.2.2.1.2.1;have bs:=ok.ar;refine c6 r.aO (λk C s=>C=[.ptr f 0,aa t,.ptr M.length 0,aa i,.ptr p 0,.slice (n.ar.map aV.row) n.jx,aa n.ar.length,aa i,.slice (r.aO.map aZ.row) r.tag,aa r.aO.length,aa k]/\s[p]? =I (.box r.row)/\
  dw n q ap f h A Q O (M++[.box (l.row ap)]) (gD n q l t) (kS n q l t r i (r.aO.drop k) k++lA n q l t (n.ar.drop (i+1)) (i+1)) s) ⟨rfl,a5,a8⟩ ?_ ?_;rotate_left
 . rintro C s ⟨rfl,ai,z⟩;rw[List.drop_length] at z;simp-implicitDefEqProofs (disch:=omega) only[go_sem,↓aX 12,↓aX 36,bV];exact bE a3 ⟨rfl,z⟩
 rintro k c C s ah g a4 ⟨rfl,ai,z⟩;rw[qC ah] at z;obtain⟨bc,bg,a9,aC⟩:=z.st;have aJ:s[M.length]? =I (.box (l.row ap)):=aC _ _ (eL _) J J;have aK:=λL=>a0 aJ L;have ao:=λL=>a0 ai L;have aE:∀(b:Bool),m1 n l t r i k c=b->(if b then fw n q l i k else[])++(kS n q l t r i (r.aO.drop (k+1)) (k+1)++lA n q l t (n.ar.drop (i+1)) (i+1))=kS n q l t r i (c::r.aO.drop (k+1)) k++lA n q l t (n.ar.drop (i+1)) (i+1):=by intro b R;rw[<-cS];subst R;rfl
 simp only[aV.row] at ai ao;simp-implicitDefEqProofs (disch:=omega) only[go_sem,↓aX 12,↓aX 15,a4,ah,af,aD,aZ.row];obtain⟨u,y⟩:∃u,u=s++[.box c.row]:=⟨_,rfl⟩;have d:u[p]? =I (.box r.row):=by rw[y];simp only[aV.row];exact ao _
 have W:u[M.length]? =I (.box (l.row ap)):=by rw[y];exact aK _
 have Y:u[s.length]? =I (.box c.row):=by rw[y];exact af _ _
 have T:=z.a1 [.box c.row];rw[<-y] at T;simp only[aZ.row] at y Y;rw[<-y];clear y aK ao aJ ai aC a9 z;simp only[aV.row] at d;have skip:m1 n l t r i k c=ad->dw n q ap f h A Q O (M++[.box (l.row ap)]) (gD n q l t) (kS n q l t r i (r.aO.drop (k+1)) (k+1)++lA n q l t (n.ar.drop (i+1)) (i+1)) u:=λR=>by rw[<-aE _ R] at T;exact T
 have io:m1 n l t r i k c=U->dw n q ap f h A Q O (M++[.box (l.row ap)]) (gD n q l t) (fw n q l i k++(kS n q l t r i (r.aO.drop (k+1)) (k+1)++lA n q l t (n.ar.drop (i+1)) (i+1))) u:=λR=>by have:=aE _ R;rw[aF rfl] at this;rw[this];exact T
 simp only[m1] at skip io;refine pi (aX 17) d ?_;apply dt<;>intro e
 . refine fE (aX 26) ?_;exact bE g ⟨rfl,d,skip (by rw[e];rfl)⟩
 refine aL Y ?_;apply cU<;>intro w
 . refine fE (aX 26) ?_;exact bE g ⟨rfl,d,skip (by rw[e,w];rfl)⟩
 refine b6 Y W a6 ?_;apply cF<;>intro D
 . refine fE (aX 26) ?_;exact bE g ⟨rfl,d,skip (by rw[e,w,decide_eq_false D];rfl)⟩
 refine aL d ?_;apply aW<;>intro F
 . refine fE (aX 26) ?_;exact bE g ⟨rfl,d,skip (by rw[e,w,be D,be F];rfl)⟩
 refine pi (aX 21) Y ?_;apply aW<;>intro ab
 . refine lk (aX 19) W @aq.len ax ?_;refine dw.call (io (by rw[e,w,be D,decide_eq_false F,be ab];rfl)) (λx aw=>a.lw.bf (wJ x aw)) (λay aA V an aj al=>Dt V ok aI aP an l a.lw a.bz a.Bg a.Bf a.oQ S ah aj al) λaz bh av=>?_;refine fE (aX 26) ?_;exact bE g ⟨rfl,bh _ _ d aQ aR,av⟩
 refine b6 Y W a7 ?_;apply cF<;>intro am
 . refine fE (aX 26) ?_;exact bE g ⟨rfl,d,skip (by rw[e,w,be D,decide_eq_false F,decide_eq_false ab,decide_eq_false am];rfl)⟩
 refine b6 W @aq.len ax ?_;obtain⟨bd,bi,a_,_⟩:=T.st;refine ch (YM a_ (fJ ok.bj J) l (i:Int) (k:Int)) ?_;rintro v az ⟨rfl,G,rfl⟩;generalize bq:oR n l (i:Int) (k:Int)=ba at*;cases ba with
 |false=>refine fE (aX 26) ?_;exact bE g ⟨rfl,a0 d G,(skip (by rw[e,w,be D,decide_eq_false F,decide_eq_false ab,be am];rfl)).a1 G⟩
 |true=>have bb:=a0 W G;refine lk (aX 19) bb @aq.len ax ?_;refine dw.call ((io (by rw[e,w,be D,decide_eq_false F,decide_eq_false ab,be am];rfl)).a1 G) (λx aw=>a.lw.bf (wJ x aw)) (λay aA V an aj al=>Dt V ok aI aP an l a.lw a.bz a.Bg a.Bf a.oQ S ah aj al) λaz bh av=>?_;refine fE (aX 26) ?_;exact bE g ⟨rfl,bh _ _ (a0 d G) aQ aR,av⟩
def oh(l:aq)(p:bb):aq:=
 {l with place:=⟨2,p.dst,0,0,⟨0,0,0,0⟩⟩,aM:=l.aM+p.bs,bD:=l.bD+p.bs,bz:=l.bz++[⟨ad,0,0,0,l.place.stop,p.dst,l.aM,l.aM+p.bs,ad⟩],tag:=.bF}
def nx(q:aG)(l:aq)(p:bb):Bool:=decide (p.src=l.place.stop)&&(!decide (q.bD<l.bD+p.bs)&&!decide (3155932800<l.aM+p.bs))
def qi(q:aG)(l:aq)(p:bb):List aq:=if nx q l p then[oh l p] else[]
def nv(q:aG)(l:aq):List bb->List aq
 |[]=>[]
 |p::a=>qi q l p++nv q l a
def jT(n:ak)(q:aG)(l:aq):List aq:=nv q l n.bw
def Mq{n:ak}{q:aG}{ap:aN}{f h:Nat}{A Q:List aq}{O:List cx}{M:Mem}(H:bW n q ap f h A Q O M)(ok:di n)(aC:ap.wf)(aI:ap.Ok)(ax:∀o∈A,ga o)(l:aq)(c:oq l)
 (aA:A.length+(jT n q l).length<=1000000000000)(aB:Q.length+(jT n q l).length<=1000000000000):
 bx aH 144 [.ptr f 0,.agg (l.row ap)] M (nD n q ap f h A Q O M (jT n q l)):=by
 obtain⟨m,o,E,ao,a6,a9⟩:=H.box;obtain⟨_,a_,ba⟩:=H.qG;have F:=λL=>a0 ao L;have eL:=λL=>cE M L;simp only[hr] at F;have y:∀(K:Mem)(B:au),(K++[B])[K.length]? =I B:=λK B=>by simp
 have az:∀(K:Mem)(B X:au),(K++[B]).set K.length X=K++[X]:=λK B X=>by simp
 have Y:∀l:aq,(l.row ap).take 13=l.row ap:=λ_=>rfl;have P:(l.row ap)[1]? =I (aa l.place.stop):=rfl;have S:(l.row ap)[8]? =I (aa l.aM):=rfl;have R:(l.row ap)[10]? =I (aa l.bD):=rfl;have an:(l.row ap)[12]? =I (.slice (l.bz.map a7.row) l.tag):=rfl;have bc:=ok.bw;refine dX Iq ?_;simp only[dN];refine b6 @b5 F @aq.len ?_;refine c6 n.bw (λj D N=>D=[.ptr f 0,.ptr M.length 0,.slice (n.bw.map bb.row) n.la,aa n.bw.length,aa j]/\dw n q ap f h A Q O (M++[.box (l.row ap)]) (jT n q l) (nv q l (n.bw.drop j)) N)
  ⟨rfl,dw.start (H.a1 _) ax aA aB⟩ ?_ ?_;rotate_left
 . rintro D N ⟨rfl,ae⟩;rw[List.drop_length] at ae;refine pi (aX 5) @bV ?_;exact ae.done (dq.a1 f h M _)
 rintro i p D N C r aS ⟨rfl,ae⟩;rw[qC C] at ae;obtain⟨bd,bg⟩:0<=p.bs/\p.bs<=86400:=by have:=(ok.ok.sO i p C).1.2.2;omega
 obtain⟨⟨_,_⟩,⟨_,_⟩⟩:=And.intro c.aM c.bD;have Z:IntKind.i64.wrap (l.bD+p.bs)=l.bD+p.bs:=kH _ J J;have dD:IntKind.i64.wrap (l.aM+p.bs)=l.aM+p.bs:=kH _ J J;obtain⟨aZ,a5,aO,am⟩:=ae.st;obtain⟨bi,bj,a2,aD,_⟩:=aO.box;have aE:N[M.length]? =I (.box (l.row ap)):=am _ _ (eL _) J J;have T:∀(b:Bool),nx q l p=b->(if b then[oh l p] else[])++nv q l (n.bw.drop (i+1))=nv q l (p::n.bw.drop (i+1)):=by intro b a;subst a;rfl
 have skip:nx q l p=ad->dw n q ap f h A Q O (M++[.box (l.row ap)]) (jT n q l) (nv q l (n.bw.drop (i+1))) N:=λa=>by rw[<-T _ a] at ae;exact ae
 have io:nx q l p=U->dw n q ap f h A Q O (M++[.box (l.row ap)]) (jT n q l) ([oh l p]++nv q l (n.bw.drop (i+1))) N:=λa=>by have:=T _ a;rw[aF rfl] at this;rw[this];exact ae
 simp only[nx] at skip io;have u:=λL=>a0 aE L;have W:=λL=>a0 aD L;simp only[hr] at W;simp-implicitDefEqProofs (disch:=omega) only[go_sem,↓aX 5,↓aX 8,↓aX 10,aS,C,y,az,bb.row,u,P];apply cF<;>intro k
 . refine fE (aX 32) ?_;exact bE r ⟨rfl,(skip (by rw[decide_eq_false k];rfl)).a1 _⟩
 refine he y u R W @b5 Z ?_;apply aW<;>intro w
 . refine fE (aX 32) ?_;exact bE r ⟨rfl,(skip (by rw[be k,be w];rfl)).a1 _⟩
 refine d0 y u S dD ?_;apply aW<;>intro G
 . refine fE (aX 32) ?_;exact bE r ⟨rfl,(skip (by rw[be k,decide_eq_false w,be G];rfl)).a1 _⟩
 have aJ:=(io (by rw[be k,decide_eq_false w,decide_eq_false G];rfl));obtain⟨d,z⟩:∃d:aq,d={l with place:=⟨2,p.dst,0,0,⟨0,0,0,0⟩⟩}:=⟨_,rfl⟩;obtain⟨e,s⟩:∃e:aq,e={d with aM:=l.aM+p.bs}:=⟨_,rfl⟩;obtain⟨g,t⟩:∃g:aq,g={e with bD:=l.bD+p.bs}:=⟨_,rfl⟩;have aQ:((((((((l.row ap).set 0 (aa 2)).set 1 (aa p.dst)).set 2 v0).set 3 v0).set 4 v0).set 5 v0).set 6 v0).set 7 v0=d.row ap:=by rw[z];rfl
 have aR:(d.row ap).set 8 (aa (l.aM+p.bs))=e.row ap:=by rw[s];rfl
 have aT:(e.row ap).set 10 (aa (l.bD+p.bs))=g.row ap:=by rw[t];rfl
 have aU:(g.row ap).set 12 (.slice ((l.bz++[(⟨ad,0,0,0,l.place.stop,p.dst,l.aM,l.aM+p.bs,ad⟩:a7)]).map a7.row) .bF)=(oh l p).row ap:=by rw[t,s,z];rfl
 have ar:(g.row ap)[8]? =I (aa (l.aM+p.bs)):=by rw[t,s];rfl
 have V:=B_ l.bz l.tag ⟨ad,0,0,0,l.place.stop,p.dst,l.aM,l.aM+p.bs,ad⟩ (by have:=c.bz;omega);simp only[a7.row] at V;have aV:=λL=>cE N L;have ab:=λL=>fW N L;have bk:=λL=>iJ N L;have af:=λL=>ju N L;clear z s t;simp-implicitDefEqProofs (disch:=omega) only[go_sem,↓aX 12,↓aX 14,↓aX 16,↓aX 18,↓aX 20,aV,ab,af,cS,u,aq.len,aq.cell,Y,ug,aQ,S,R,Z,dD,aR,aT,an,ar,P];refine bG V (B7 (aX 22) ab af @aq.len Y aU ?_);refine dw.call (aJ.a1 _) (λx aP=>by rw[dV.1 aP];exact c.lw.bf rfl) (λaY a4 aL ay aj al=>?_) λa3 bh aK=>?_
 . refine bx.mono (Br aL aC aI ay (oh l p) (c.lw.bf rfl) aj al) ?_;rintro v a8 ⟨rfl,bh,ah,ai,av,aw⟩;exact⟨rfl,bh,ah,ai,av,eI.one aw⟩
 refine fE (aX 32) ?_;exact bE r ⟨rfl,aK⟩
def sj(n:ak)(l:aq)(i:Nat):Bool:=match n.ar[i]? with
 |some r=>(match r.aO[0]? with|some c=>!r.ds&&decide (l.aM<=c.aR)|none=>ad)
 |none=>ad
def ik(n:ak)(l:aq)(x:b1):Bool:=x.aT&&(decide (x.src=l.place.run)&&(decide (x.fg=l.place.cl)&&sj n l x.dst.toNat))
def mE(n:ak)(l:aq)(x:b1):List aq:=if ik n l x then fR n l x.dst.toNat 0 U l.place.bl else[]
def kD(n:ak)(l:aq):List b1->List aq
 |[]=>[]
 |x::a=>mE n l x++kD n l a
def iK(n:ak)(l:aq):List aq:=kD n l n.bj
def ac0{n:ak}{q:aG}{ap:aN}{f h:Nat}{A Q:List aq}{O:List cx}{M:Mem}(H:bW n q ap f h A Q O M)(ok:di n)(aw:ap.wf)(az:ap.Ok)(aj:∀o∈A,ga o)(l:aq)(z:oq l)
 (an:A.length+(iK n l).length<=1000000000000)(ao:Q.length+(iK n l).length<=1000000000000):
 bx aH 167 [.ptr f 0,.agg (l.row ap)] M (nD n q ap f h A Q O M (iK n l)):=by
 obtain⟨m,o,E,ai,a2,a3⟩:=H.box;obtain⟨_,a5,a6⟩:=H.qG;have G:=λL=>a0 ai L;have eL:=λL=>cE M L;simp only[hr] at G;have v:∀(K:Mem)(B:au),(K++[B])[K.length]? =I B:=λK B=>by simp
 have am:∀(K:Mem)(B X:au),(K++[B]).set K.length X=K++[X]:=λK B X=>by simp
 have aI:∀l:aq,(l.row ap).take 13=l.row ap:=λ_=>rfl;have aJ:((l.row ap).drop 4).take 4=l.place.bl.row:=rfl;have ab:(l.row ap)[2]? =I (aa l.place.run):=rfl;have af:(l.row ap)[3]? =I (aa l.place.cl):=rfl;have ah:(l.row ap)[8]? =I (aa l.aM):=rfl;have a7:=ok.bj;refine dX Ii ?_;simp only[dN];refine b6 @b5 G @aq.len ?_;refine c6 n.bj (λj D N=>D=[.ptr f 0,.ptr M.length 0,.slice (n.bj.map b1.row) n.lc,aa n.bj.length,aa j]/\dw n q ap f h A Q O (M++[.box (l.row ap)]) (iK n l) (kD n l (n.bj.drop j)) N)
  ⟨rfl,dw.start (H.a1 _) aj an ao⟩ ?_ ?_;rotate_left
 . rintro D N ⟨rfl,ae⟩;rw[List.drop_length] at ae;refine pi (aX 5) @bV ?_;exact ae.done (dq.a1 f h M _)
 rintro i x D N C e aS ⟨rfl,ae⟩;rw[qC C] at ae;have ax:=ok.ok.bj.2 i x C;obtain⟨aW,aY⟩:=ax.dst;obtain⟨a,av⟩:∃a:Nat,x.dst=a:=⟨x.dst.toNat,J⟩;have S:x.dst.toNat=a:=J;obtain⟨r,s⟩:∃r,n.ar[a]? =I r:=⟨n.ar[a]'J,by simp⟩;have a4:=(ok.ok.ar.2 a r s).2.2.2.2.2.1.1;obtain⟨c,w⟩:∃c,r.aO[0]? =I c:=⟨r.aO[0]'J,by simp⟩;obtain⟨aP,aU,aC,Z⟩:=ae.st;obtain⟨a8,a9,aQ,aD,_⟩:=aC.box;have ay:N[M.length]? =I (.box (l.row ap)):=Z _ _ (eL _) J J;have R:∀(b:Bool),ik n l x=b->(if b then fR n l a 0 U l.place.bl else[])++kD n l (n.bj.drop (i+1))=kD n l (x::n.bj.drop (i+1)):=by intro b k;subst k;rw[<-S];rfl
 have skip:ik n l x=ad->dw n q ap f h A Q O (M++[.box (l.row ap)]) (iK n l) (kD n l (n.bj.drop (i+1))) N:=λk=>by rw[<-R _ k] at ae;exact ae
 have io:ik n l x=U->dw n q ap f h A Q O (M++[.box (l.row ap)]) (iK n l) (fR n l a 0 U l.place.bl++kD n l (n.bj.drop (i+1))) N:=λk=>by have:=R _ k;rw[aF rfl] at this;rw[this];exact ae
 simp only[ik,sj,S,s,w] at skip io;have t:=λL=>a0 ay L;have T:=λL=>a0 aD L;simp only[hr] at T;simp-implicitDefEqProofs (disch:=omega) only[go_sem,↓aX 5,↓aX 8,↓aX 10,aS,C,v,am,b1.row];apply cU<;>intro d
 . refine fE (aX 22) ?_;exact bE e ⟨rfl,(skip (by rw[d];rfl)).a1 _⟩
 refine b6 v t ab ?_;apply cF<;>intro g
 . refine fE (aX 22) ?_;exact bE e ⟨rfl,(skip (by rw[d,decide_eq_false g];rfl)).a1 _⟩
 refine b6 v t af ?_;apply cF<;>intro p
 . refine fE (aX 22) ?_;exact bE e ⟨rfl,(skip (by rw[d,be g,decide_eq_false p];rfl)).a1 _⟩
 have V:=λL=>cE N L;have F:=λL=>fW N L;have a_:=λL=>iJ N L;have aK:=λL=>ju N L;simp-implicitDefEqProofs (disch:=omega) only[go_sem,↓aX 12,V,F,aK,cS,T,b5,av,s,aV.row];refine pi (aX 16) F ?_;apply dt<;>intro u
 . refine fE (aX 22) ?_;exact bE e ⟨rfl,(skip (by rw[d,be g,be p,u];rfl)).a1 _⟩
 refine es F w @aZ.row.eq_1 t ah ?_;apply cF<;>intro P
 . refine fE (aX 22) ?_;exact bE e ⟨rfl,(skip (by rw[d,be g,be p,u,decide_eq_false P];rfl)).a1 _⟩
 refine B7 (aX 14) V t @aq.len aI aJ ?_;refine dw.call ((io (by rw[d,be g,be p,u,be P];rfl)).a1 _) (λy aE=>z.lw.bf (yc y aE)) (λaL aT aB al W Y=>yd aB ok aw az al l z.lw z.bz s w U l.place.bl W Y) λaR bh aA=>?_;refine fE (aX 22) ?_;exact bE e ⟨rfl,aA⟩
theorem Do{n:ak}{q:aG}{l:aq}{t:Int}{r:aV}{i:Nat}:∀{b:List aZ}{k:Nat},∀x∈kS n q l t r i b k,x.bf=l.bf
 |[],_,x,a=>by cases a
 |c::b,k,x,a=>(dv.1 a).elim (QY x) (Do x)
theorem wL{n:ak}{q:aG}{l:aq}{t:Int}:∀{b:List aV}{i:Nat},∀x∈lA n q l t b i,x.bf=l.bf
 |[],_,x,a=>by cases a
 |r::b,i,x,a=>(dv.1 a).elim (Do x) (wL x)
theorem B8{q:aG}{l:aq}:∀{b:List bb},∀x∈nv q l b,x.bf=l.bf
 |[],x,a=>by cases a
 |p::b,x,a=>by
  rcases dv.1 a with a|a
  . unfold qi at a;split at a
    . rw[dV.1 a];rfl
    . cases a
  . exact B8 x a
theorem Li{n:ak}{l:aq}:∀{b:List b1},∀x∈kD n l b,x.bf=l.bf
 |[],x,a=>by cases a
 |p::b,x,a=>by
  rcases dv.1 a with a|a
  . unfold mE at a;split at a
    . exact yc x a
    . cases a
  . exact Li x a
def mb(n:ak)(l:aq):Bool:=match(gR n l.place.run.toNat)[l.place.cl.toNat]? with
 |some c=>c.ct
 |none=>ad
def gk(l:aq):aq:={l with bf:=l.place.bl::l.bf}
def i2(n:ak)(q:aG)(l:aq)(t:Int):List aq:=gD n q l t++jT n q l
def kz(n:ak)(q:aG)(l:aq):List aq:=if mb n l then i2 n q (gk l) (l.aM+dS n l.place.stop) else[]
def pJ(n:ak)(q:aG)(l:aq):List aq:=iK n l++kz n q l
def iC(n:ak)(q:aG)(l:aq):List cx:=if l.place.stop=q.dst then oL n q l else[]
def oJ(n:ak)(q:aG)(l:aq):List cx:=if mb n l then iC n q l else[]
def i8(n:ak)(q:aG)(l:aq):Int:=if q.hc then l.aM+dS n l.place.stop else l.aM
def fO(n:ak)(q:aG)(l:aq):List aq:=
 if l.place.cP=1 then pJ n q l else if l.place.cP=2 then gD n q l l.aM else i2 n q l (i8 n q l)
def lj(n:ak)(q:aG)(l:aq):List cx:=if l.place.cP=1 then oJ n q l else iC n q l
def tj.wf{x:a7}(h:tj x):x.wf:=by obtain⟨⟨_,_⟩,_,_⟩:=h;exact⟨by unfold dd;omega,by unfold dd;omega⟩
section
variable{n:ak}{q:aG}{ap:aN}{f h:Nat}{A Q:List aq}{O:List cx}{gO M N a8:Mem}{full cJ L:List aq}
def dw.aed(H:dw n q ap f h A Q O gO full cJ N)(bh:dq f h M gO):dw n q ap f h A Q O M full cJ N:=by obtain⟨a,b,ae,c,d⟩:=H;exact⟨a,b,ae,bh.trans c,d⟩
def dw.qc(H:dw n q ap f h A Q O gO full cJ N){p:Nat}{c:List V}(i:N[p]? =I (.box c))(g:gO.length<=p)(j:p≠f)(k:p≠h)(B:au):dw n q ap f h A Q O gO full cJ (N.set p B):=by obtain⟨a,b,ae,d,e⟩:=H;exact⟨a,b,ae.qc i j k B,d.qc g B,e⟩
def dw.finish{K:V->Mem->Prop}(H:dw n q ap f h A Q O gO full cJ N)(j:n.wf)(ok:di n)(l:aq)(b:oq l)(g:O.length+1<=1000000000000)
 (i:∀a8,dq f h N a8->dw n q ap f h A Q (O++oL n q l) gO full cJ a8->K (.tuple []) a8):@nA aH 142 [.ptr f 0,.agg (l.row ap)] N ⟨K⟩:=by
 obtain⟨c,d,ae,bh,e⟩:=H;refine ch (acb ae j ok l (by have:=b.bz;omega) (λx m=>(b.oQ x m).wf) g) ?_;rintro v a8 ⟨rfl,a,k⟩;exact i a8 a ⟨c,d,k,bh.trans a,e⟩
end
def EO{n:ak}{q:aG}{ap:aN}{f h:Nat}{A Q:List aq}{O:List cx}{gO N:Mem}{full:List aq}(ok:di n)(w:ap.wf)(y:ap.Ok)(l:aq)(a:oq l)(aj:l.bf.length<8)(G:l.place.bl.wf)
 {i k:Nat}{r:aV}{c:aZ}(ao:n.ar[i]? =I r)(al:r.aO[k]? =I c)(an:l.place.stop=c.stop)(H:dw n q ap f h A Q O gO full (i2 n q (gk l) (l.aM+dS n l.place.stop)) N)
 {p:Nat}(j:N[p]? =I (.box (l.row ap)))(af:gO.length<=p)(E:p≠f)(F:p≠h)(s:av)(ax:aE s 0=.ptr f 0)(M:aE s 3=.ptr p 0)(P:Exit->av->Mem->Prop)(ah:∀a8,dw n q ap f h A Q O gO full [] a8->P .normal [] a8):ck aH Dy P s N:=by
 have T:∀l:aq,(l.row ap).take 13=l.row ap:=λ_=>rfl;have aA:((l.row ap).drop 4).take 4=l.place.bl.row:=rfl;have aQ:(l.row ap)[1]? =I (aa l.place.stop):=rfl;have Z:(l.row ap)[11]? =I (e5 ap l.bf):=rfl;obtain⟨s,ae,ay,_,_,_,R,bP,aT⟩:=wP ok ao al;rw[<-an] at ae ay R;obtain⟨⟨_,_⟩,⟨_,_⟩⟩:=And.intro a.aM a.bD;have ai:=Pu ap l.place.bl w y G a.lw.1 aj;simp-implicitDefEqProofs (disch:=omega) only[go_sem,↓aX 11,↓aX 23,M,j,aq.len,Z,aA];refine d2 ai ?_ (by simp only[cd,xf];rfl);rintro v rfl;obtain⟨B,C⟩:∃B,e5 ap (l.place.bl::l.bf)=.cq B:=⟨_,tP ..⟩;obtain⟨aB,aC⟩:=Ad ap (l.place.bl::l.bf);have S:(l.row ap).set 11 (e5 ap (l.place.bl::l.bf))=(gk l).row ap:=rfl;rw[C] at aB aC S;have g:oq (gk l):=⟨⟨λx b=>(fI.1 b).elim (λe=>e▸G) (a.lw.1 x),by show l.bf.length+1<=8;omega⟩,a.bz,a.Bf,a.Bg,a.oQ,a.aM,a.bD⟩;obtain⟨d,u⟩:∃d,d=N.set p (.box ((gk l).row ap)):=⟨_,rfl⟩;have K:dw n q ap f h A Q O gO full (i2 n q (gk l) (l.aM+dS n l.place.stop)) d:=by rw[u];exact H.qc j af E F _
 have D:d[p]? =I (.box ((gk l).row ap)):=by rw[u];exact bY (az.1 j).1
 have ab:((gk l).row ap)[8]? =I (aa l.aM):=rfl;have Y:((gk l).row ap)[1]? =I (aa l.place.stop):=rfl;have aF:IntKind.i64.wrap (l.aM+s.change)=l.aM+s.change:=kH _ J J;obtain⟨aI,aL,aw,_⟩:=K.st;obtain⟨aR,aS,aJ,aD,_⟩:=aw.box;simp only[hr] at aD;simp-implicitDefEqProofs (disch:=omega) only[go_sem,↓aX 13,↓aX 15,ax,M,j,C,aq.len,S];rw[<-u];simp-implicitDefEqProofs (disch:=omega) only[go_sem,↓aX 17,b5,D,aD,aq.len,T,ab,Y,ae,Stop.row,aF];rw[<-R];refine dw.call K (λx b=>g.lw.bf (wL x b)) (λV X z t m o=>y7 z ok w y t (gk l) g _ m o) λaK bh L=>?_;have am:=bh _ _ D E F;refine lk (aX 19) am @aq.len T ?_;rw[<-ez (jT n q (gk l))] at L;refine dw.call L (λx b=>g.lw.bf (B8 x b)) (λV X z t m o=>Mq z ok w y t (gk l) g m o) λW aP au=>?_;exact ah W au
def TO{n:ak}{q:aG}{ap:aN}{f h:Nat}{A Q:List aq}{O:List cx}{M:Mem}(H:bW n q ap f h A Q O M)(an:n.wf)(ok:di n)(t:ap.wf)(w:ap.Ok)(ab:∀o∈A,ga o)(l:aq)(a:oq l)(C:l.bf.length<8)(G:l.place.bl.wf)
 {i k:Nat}{r:aV}{c:aZ}(e:n.ar[i]? =I r)(b:r.aO[k]? =I c)(E:l.place.run=i)(D:l.place.cl=k)(F:l.place.stop=c.stop)
 (aj:A.length+(pJ n q l).length<=1000000000000)(al:Q.length+(pJ n q l).length<=1000000000000)(ai:O.length+1<=1000000000000):
 bx aH 141 [.ptr f 0,.agg (l.row ap)] M (nD n q ap f h A Q (O++oJ n q l) M (pJ n q l)):=by
 obtain⟨_,aI,aJ⟩:=H.qG;have eL:=λL=>cE M L;have P:∀l:aq,(l.row ap).take 13=l.row ap:=λ_=>rfl;have aS:((l.row ap).drop 4).take 4=l.place.bl.row:=rfl;have X:(l.row ap)[1]? =I (aa l.place.stop):=rfl;have Y:(l.row ap)[2]? =I (aa (i:Int)):=by rw[<-E];rfl
 have Z:(l.row ap)[3]? =I (aa (k:Int)):=by rw[<-D];rfl
 have aE:(l.row ap)[11]? =I (e5 ap l.bf):=rfl;obtain⟨s,ae,aP,_,_,_,aQ,bP,aR⟩:=wP ok e b;have p:mb n l=c.ct:=by simp only[mb,gR,E,D,dU,e,b]
 obtain⟨⟨_,_⟩,⟨_,_⟩⟩:=And.intro a.aM a.bD;refine dX H_ ?_;simp only[dN];refine b6 eL @aq.len P ?_;have z:dw n q ap f h A Q O (M++[.box (l.row ap)]) (pJ n q l) (iK n l++kz n q l) (M++[.box (l.row ap)]):=dw.start (H.a1 _) ab aj al;refine dw.call z (λx j=>a.lw.bf (Li x j)) (λav aA z af S T=>ac0 z ok t w af l a S T) λN V g=>?_;have d:N[M.length]? =I (.box (l.row ap)):=V _ _ (eL _) J J;obtain⟨aw,aB,au,aC⟩:=g.st;obtain⟨aK,aL,ay,aD,_⟩:=au.box;have u:=aD;simp only[hr] at u;simp-implicitDefEqProofs (disch:=omega) only[go_sem,↓aX 5,b5,d,u,Y,Z,e,aV.row,b,aZ.row];apply cU<;>intro m
 . refine ah ?_;have v:kz n q l=[]:=by unfold kz;rw[p,m];rfl
   rw[v] at g;have j:oJ n q l=[]:=by unfold oJ;rw[p,m];rfl
   rw[j,ez];exact g.done (dq.a1 f h M _)
 have v:kz n q l=i2 n q (gk l) (l.aM+dS n l.place.stop):=by unfold kz;rw[p,m];rfl
 have j:oJ n q l=iC n q l:=by unfold oJ;rw[p,m];rfl
 rw[j];rw[v] at g;have K:=g.aed (dq.a1 f h M _);refine rx (aX 9) @b5 d u X ?_;apply aW<;>intro B
 . refine lk (aX 7) d @aq.len P ?_;refine dw.finish K an ok l a ai λaz W ao=>?_;have am:=W _ _ d J J;refine ah ?_;refine EO ok t w l a C G e b F ao am (bk _) J J _ rfl rfl _ λR y=>?_;refine ah ?_;rw[show iC n q l=oL n q l from aF B];exact y.done (dq.refl f h M)
 . refine ah ?_;refine EO ok t w l a C G e b F K d (bk _) J J _ rfl rfl _ λR y=>?_;refine ah ?_;rw[show iC n q l=[] from ax B,ez];exact y.done (dq.refl f h M)
structure yG(n:ak)(l:aq):Prop where
 stop:∃s,n.aB[l.place.stop.toNat]? =I s/\0<=l.place.stop/\dS n l.place.stop=s.change/\0<=s.change/\s.change<=3600
 aeT:l.place.cP=1->l.bf.length<8/\l.place.bl.wf/\∃(i k:Nat)(r:aV)(c:aZ),n.ar[i]? =I r/\r.aO[k]? =I c/\l.place.run=i/\l.place.cl=k/\l.place.stop=c.stop
def ad5{n:ak}{q:aG}{ap:aN}{f h:Nat}{A Q:List aq}{O:List cx}{M:Mem}(H:bW n q ap f h A Q O M)(X:n.wf)(ok:di n)(D:ap.wf)(F:ap.Ok)(V:∀o∈A,ga o)(l:aq)(a:oq l)(aw:yG n l)
 (p:A.length+(fO n q l).length<=1000000000000)(t:Q.length+(fO n q l).length<=1000000000000)(W:O.length+1<=1000000000000):
 bx aH 74 [.ptr f 0,.agg (l.row ap)] M (nD n q ap f h A Q (O++lj n q l) M (fO n q l)):=by
 obtain⟨_,aU,aV⟩:=H.qG;have eL:=λL=>cE M L;have u:∀l:aq,(l.row ap).take 13=l.row ap:=λ_=>rfl;have ar:(l.row ap)[0]? =I (aa l.place.cP):=rfl;have S:(l.row ap)[1]? =I (aa l.place.stop):=rfl;have ai:(l.row ap)[8]? =I (aa l.aM):=rfl;obtain⟨m,o,E,au,aS,aT⟩:=H.box;have P:=λL=>a0 au L;simp only[hr] at P;obtain⟨⟨s,ae,a2,aB,bP,a3⟩,az⟩:=aw;obtain⟨⟨_,_⟩,⟨_,_⟩⟩:=And.intro a.aM a.bD;have aO:IntKind.i64.wrap (l.aM+s.change)=l.aM+s.change:=kH _ J J;have a4:=λL=>H.a1 L;refine dX Io ?_;simp only[dN];refine b6 eL @aq.len ar ?_;apply aW<;>intro j
 . rw[show fO n q l=pJ n q l from aF j] at p t⊢;rw[show lj n q l=oJ n q l from aF j];obtain⟨aE,aI,i,k,r,c,gz,aJ,aK,s2,aL⟩:=az j;refine lk (aX 5) eL @aq.len u ?_;refine ch (TO (H.a1 _) X ok D F V l a aE aI gz aJ aK s2 aL p t W) ?_;rintro v N ⟨rfl,bh,av⟩;refine ah ?_;exact⟨rfl,(dq.a1 f h M _).trans bh,av⟩
 rw[show lj n q l=iC n q l from ax j];refine fE (aX 32) ?_;apply aW<;>intro ab
 . rw[show fO n q l=gD n q l l.aM by unfold fO;rw[ax j,aF ab]] at p t⊢;have b:dw n q ap f h A Q O (M++[.box (l.row ap)]) (gD n q l l.aM) (gD n q l l.aM++[]) (M++[.box (l.row ap)]):=by rw[ez];exact dw.start (H.a1 _) V p t
   have tail:∀N,dw n q ap f h A Q (O++iC n q l) (M++[.box (l.row ap)]) (gD n q l l.aM) (gD n q l l.aM++[]) N->ck aH DV (m0 0 (iT [] (k1 (nD n q ap f h A Q (O++iC n q l) M (gD n q l l.aM))))) [(0,.ptr f 0),(3,.ptr M.length 0)] N:=by intro N g;obtain⟨al,an,aj,R⟩:=g.st;have d:=R _ _ (eL _) J J;refine rx (aX 11) d @aq.len u ai ?_;refine dw.call g (λx C=>a.lw.bf (wL x C)) (λY Z b B w y=>y7 b ok D F B l a _ w y) λam bh e=>?_;refine ah ?_;exact e.done (dq.a1 f h M _)
   simp-implicitDefEqProofs (disch:=omega) only[go_sem,↓aX 9,↓aX 12,b5,eL,P,S];apply aW<;>intro z
   . refine lk (aX 7) eL @aq.len u ?_;refine dw.finish b X ok l a W λK ao e=>?_;refine ah ?_;refine tail K ?_;rw[show iC n q l=oL n q l from aF z];exact e
   . refine ah ?_;refine tail _ ?_;rw[show iC n q l=[] from ax z,ez];exact b
 rw[show fO n q l=i2 n q l (i8 n q l) by unfold fO;rw[ax j,ax ab]] at p t⊢;have b:dw n q ap f h A Q O (M++[.box (l.row ap)]) (i2 n q l (i8 n q l)) (i2 n q l (i8 n q l)) (M++[.box (l.row ap)]):=dw.start (H.a1 _) V p t;have aC:∀N,dw n q ap f h A Q (O++iC n q l) (M++[.box (l.row ap)]) (i2 n q l (i8 n q l)) (i2 n q l (i8 n q l)) N->N[M.length]? =I (.box (l.row ap))->
  ck aH DW (m0 0 (iT [] (k1 (nD n q ap f h A Q (O++iC n q l) M (i2 n q l (i8 n q l)))))) [(0,.ptr f 0),(3,.ptr M.length 0),(4,aa (i8 n q l))] N:=by
  intro N g d;refine v6 (aX 24) (aX 27) d @aq.len u ?_;refine dw.call g (λx C=>a.lw.bf (wL x C)) (λY Z b B w y=>y7 b ok D F B l a _ w y) λam bh e=>?_;have ay:=bh _ _ d J J;rw[<-ez (jT n q l)] at e;refine lk (aX 26) ay @aq.len u ?_;refine dw.call e (λx C=>a.lw.bf (B8 x C)) (λY Z b B w y=>Mq b ok D F B l a w y) λaQ aR aA=>?_;refine ah ?_;exact aA.done (dq.a1 f h M _)
 have tail:∀N,dw n q ap f h A Q (O++iC n q l) (M++[.box (l.row ap)]) (i2 n q l (i8 n q l)) (i2 n q l (i8 n q l)) N->ck aH DX (m0 0 (iT [] (k1 (nD n q ap f h A Q (O++iC n q l) M (i2 n q l (i8 n q l)))))) [(0,.ptr f 0),(3,.ptr M.length 0)] N:=by
  intro N g;obtain⟨al,an,aj,R⟩:=g.st;have d:=R _ _ (eL _) J J;obtain⟨aY,aZ,aP,aD,_⟩:=aj.box;simp only[hr] at aD;have G:=aC N g d;simp-implicitDefEqProofs (disch:=omega) only[go_sem,↓aX 18,↓aX 22,↓aX 29,d,ai,b5,aD];apply dt<;>intro af
  . have T:i8 n q l=l.aM+s.change:=by unfold i8;rw[aF af,aB]
    rw[T] at G⊢;simp-implicitDefEqProofs (disch:=omega) only[go_sem,↓aX 20,d,S,b5,aD,ae,Stop.row,aO];exact G
  . have T:i8 n q l=l.aM:=by unfold i8;rw[ax (by rw[af];exact kI)]
    rw[T] at G⊢;refine ah ?_;exact G
 simp-implicitDefEqProofs (disch:=omega) only[go_sem,↓aX 16,↓aX 30,b5,eL,P,S];apply aW<;>intro z
 . refine lk (aX 14) eL @aq.len u ?_;refine dw.finish b X ok l a W λK ao e=>?_;refine ah ?_;refine tail K ?_;rw[show iC n q l=oL n q l from aF z];exact e
 . refine ah ?_;refine tail _ ?_;rw[show iC n q l=[] from ax z,ez];exact b
def bW.xG{n:ak}{q:aG}{ap:aN}{f h:Nat}{A Q k:List aq}{O:List cx}{M g:Mem}(H:bW n q ap f h A Q O M)(al:kl ap g h k)(bh:ev h M g):bW n q ap f h A k O g:=by
 obtain⟨u,w,x⟩:=H.qG;obtain⟨⟨m,o,E,r,s,d⟩,t⟩:=H;obtain⟨p,j⟩:∃p,M[h]? =I (.box p):=by
  obtain⟨c,⟨aD,_⟩|⟨a,ver,l,v,aD,_⟩⟩:=t
  . exact⟨_,aD⟩
  . exact⟨_,aD.h⟩
 refine⟨⟨m,o,E,bh _ _ r u (by intro _ _ _ e;cases e),s.cj λi R ver b=>?_,d.cj ?_ λi R ver b=>?_⟩,al⟩
 . exact bh _ _ b (λe=>by rw[e,j] at b;cases b) (by intro _ _ _ e;cases e)
 . rw[d.map];exact bh _ _ d.map (λe=>by have:=d.map;rw[e,j] at this;cases this) (by intro _ _ _ e;cases e)
 . exact bh _ _ b (λe=>by rw[e,j] at b;cases b) (by intro _ _ _ e;cases e)
def c5{α:Type}(f:α->Nat):List α->Nat
 |[]=>0
 |x::a=>f x+c5 f a
theorem vX{α:Type}(f:α->Nat):∀a b:List α,c5 f (a++b)=c5 f a+c5 f b
 |[],b=>by simp[c5]
 |x::a,b=>by simp only[fG,c5,vX f a b];omega
theorem adf{α:Type}(f:α->Nat){a b:List α}(h:a.Perm b):c5 f a=c5 f b:=by
 induction h with
 |nil=>rfl
 |cons x _ e=>simp only[c5,e]
 |swap x y l=>simp only[c5];omega
 |trans _ _ c d=>exact c.trans d
theorem BO{α:Type}{f:α->Nat}:∀{l:List α},(∀x∈l,1<=f x)->l.length<=c5 f l
 |[],_=>bk _
 |x::l,h=>by have:=BO (l:=l) λy a=>h y (fs _ a);have:=h x (ft ..);simp only[c5,cc];omega
def lq.sum{ap:aN}{A Q b a:List aq}{l:aq}(h:lq ap A Q l b a)(w:aq->Nat):c5 w a<=c5 w Q+w l:=by
 rcases h with⟨rfl,rfl,_⟩|⟨rfl,rfl,_⟩
 . omega
 . rw[vX];simp[c5]
theorem eI.sum{ap:aN}(w:aq->Nat):∀{e A Q d c:List aq},eI ap A Q e d c->c5 w c<=c5 w Q+c5 w e
 |[],A,Q,d,c,h=>by obtain⟨rfl,rfl⟩:=h;simp[c5]
 |l::e,A,Q,d,c,⟨i,j,f,g⟩=>by have a:=f.sum w;have b:=eI.sum w g;simp only[c5];omega
theorem eI.Ev{ap:aN}:∀{d A Q a c:List aq},eI ap A Q d a c->a.length+Q.length=A.length+c.length
 |[],A,Q,a,c,h=>by obtain⟨rfl,rfl⟩:=h;rfl
 |l::d,A,Q,a,c,⟨g,i,e,f⟩=>by
  have b:=eI.Ev f;rcases e with⟨rfl,rfl,_⟩|⟨rfl,rfl,_⟩
  . exact b
  . simp only[b0,hP] at b;omega
def lr.refl(l:aq):lr l l:=⟨J,J,J⟩
def lq.grow{ap:aN}{A Q b c:List aq}{l:aq}(h:lq ap A Q l b c):(∀o∈A,o∈b)/\(∀o∈b,o∈A∨o∈c)/\(∀o∈Q,o∈c)/\∃o∈b,o.place=l.place/\lr o l:=by
 rcases h with⟨rfl,rfl,o,d,e⟩|⟨rfl,rfl,_⟩
 . exact⟨λ_ h=>h,λ_ h=>.inl h,λ_ h=>h,o,d,e⟩
 . refine⟨λ_ h=>je _ h,λo a=>?_,λ_ h=>je _ h,l,by simp,rfl,lr.refl l⟩;rcases dv.1 a with a|a
   . exact .inl a
   . exact .inr (iq _ a)
theorem eI.grow{ap:aN}:∀{d A Q b c:List aq},eI ap A Q d b c->(∀o∈A,o∈b)/\(∀o∈b,o∈A∨o∈c)/\(∀o∈Q,o∈c)/\∀l∈d,∃o∈b,o.place=l.place/\lr o l
 |[],A,Q,b,c,h=>by obtain⟨rfl,rfl⟩:=h;exact⟨λ_ h=>h,λ_ h=>.inl h,λ_ h=>h,λ_ h=>by cases h⟩
 |l::d,A,Q,b,c,⟨s,t,q,r⟩=>by
  obtain⟨g,i,j,o,k,m⟩:=q.grow;obtain⟨e,n,f,p⟩:=eI.grow r;refine⟨λx a=>e x (g x a),λx a=>?_,λx a=>f x (j x a),λx a=>?_⟩
  . rcases n x a with h|h
    . exact(i x h).imp_right (f x)
    . exact .inr h
  . rcases fI.1 a with rfl|a
    . exact⟨o,e o k,m⟩
    . exact p x a
def rH(n:ak)(q:aG)(A:List aq)(O:List cx)(l:aq):Prop:=(∀x∈fO n q l,∃o∈A,o.place=x.place/\lr o x)/\∀o∈lj n q l,o∈O
def f0(q:aG):aq:=⟨⟨0,q.src,0,0,⟨0,0,0,0⟩⟩,q.aM,0,0,[],[],.nil⟩
def ad2(n:ak)(q:aG)(l:aq):(lj n q l).length<=1:=by
 have h:(iC n q l).length<=1:=by
  unfold iC oL;split
  . split<;>simp
  . simp
 unfold lj;split
 . unfold oJ;split
   . exact h
   . simp
 . exact h
structure Pn(n:ak)(q:aG)(ap:aN)(f h:Nat)(bt:aq->Prop)(mu:List aq->List aq->Nat)(C:List aq->Prop)(gO:Mem)(m:Nat)(A Q:List aq)(O:List cx)(M:Mem):Prop where
 st:bW n q ap f h A Q O M
 wu:∀l∈A,bt l
 vO:∀l∈Q,bt l
 sum:mu A Q=m
 Sm:C A
 fa:A.length+m<=400000000000+Q.length
 ol:O.length+m<=400000000000
 lF:∀l∈A,l∈Q∨rH n q A O l
 xg:∀o∈O,∃l,bt l/\o∈lj n q l
 start:f0 q∈A
 bh:dq f h gO M
structure we(n:ak)(q:aG)(ap:aN)(bt:aq->Prop)(mu:List aq->List aq->Nat)(C:List aq->Prop):Prop where
 inv:∀l,bt l->oq l/\yG n l
 next:∀l,bt l->∀x∈fO n q l,bt x
 len:∀A Q:List aq,(∀l∈Q,bt l)->Q.length<=mu A Q
 T9:∀(A Q:List aq)(x:aq),(∀l∈Q,bt l)->x∈Q->(fO n q x).length<=mu A Q+100000
 dec:∀(A Q:List aq)(x:aq)(Cz yu CA:List aq),(∀l∈A,bt l)->(∀l∈Q,bt l)->C A->(x::Cz).Perm Q->eI ap A Cz (fO n q x) yu CA->C yu/\mu yu CA+1<=mu A Q
 start:bt (f0 q)
 one:C [f0 q]
 acM:mu [f0 q] [f0 q]<=400000000000
def ab9{n:ak}{q:aG}{ap:aN}{f h:Nat}{M:Mem}(H:bW n q ap f h [] [] [] M)(aF:n.wf)(ok:di n)(P:ap.wf)(T:ap.Ok)(bt:aq->Prop)(k:List aq->List aq->Nat)(C:List aq->Prop)(g:we n q ap bt k C):
 bx aH 35 [.ptr f 0,e5 ap []] M (λv w=>v=.tuple []/\dq f h M w/\∃A O,bW n q ap f h A [] O w/\f0 q∈A/\(∀l∈A,bt l)/\(∀l∈A,rH n q A O l)/\O.length<=400000000000/\∀o∈O,∃l,bt l/\o∈lj n q l):=by
 have az:∀(K:Mem)(B:au),(K++[B])[K.length]? =I B:=λK B=>by simp
 have aA:∀(K:Mem)(B X:au),(K++[B]).set K.length X=K++[X]:=λK B X=>by simp
 have a8:∀l:aq,(l.row ap).take 13=l.row ap:=λ_=>rfl;obtain⟨F,S,aE,aC,aB,V,aI,aW⟩:=g;obtain⟨m,o,E,i,u,av⟩:=H.box;have r:=i;simp only[hr] at r;obtain⟨s,L⟩:∃s,e5 ap []=.cq s:=⟨_,rfl⟩;have aO:(f0 q).row ap=[v0,aa q.src,v0,v0,v0,v0,v0,v0,aa q.aM,v0,v0,.cq s,.slice [] .nil]:=by rw[<-L];rfl
 refine dX Ig ?_;simp only[dN];rw[L];refine bN @b5 r ?_;rw[<-aO];refine ch (Br H P T (λ_ h=>by cases h) (f0 q) ⟨λ_ h=>(gh h).elim,c_ _⟩ (by decide) (by decide)) ?_;rintro v aU ⟨rfl,oO,Z,ai,aP,G⟩;obtain⟨rfl,rfl⟩:Z=[f0 q]/\ai=[f0 q]:=by
  rcases G with⟨_,_,o,a,_⟩|h
  . cases a
  . exact⟨h.1,h.2.1⟩
 clear G av u r i;refine ah ?_;refine jz (λm Y N=>Y=[.ptr f 0]/\∃A Q O,Pn n q ap f h bt k C M m A Q O N) (k [f0 q] [f0 q]) ⟨rfl,_,_,_,aP,?_,?_,rfl,aI,?_,?_,?_,?_,?_,oO⟩ ?_
 . intro l b;rw[dV.1 b];exact V
 . intro l b;rw[dV.1 b];exact V
 . simp only[hP];omega
 . simp only[eu];omega
 . exactλl b=>.inl b
 . intro _ h;cases h
 . exact dV.2 rfl
 rintro m Y N ⟨rfl,A,Q,O,R⟩;obtain⟨a6,a7,aT,aD,_⟩:=R.st.box;simp only[hr] at aD;have aY:=R.fa;have a3:=aE A Q R.vO;have a2:=R.ol;have a4:=R.sum;refine v5 (aX 3) @b5 aD ?_;refine kc (Pf R.st.nj) ?_;refine ah ?_;apply cF<;>intro t
 . obtain rfl:Q=[]:=by
    match Q,t with
    |[],_=>rfl
    |_::_,t=>exact aJ (by simp only[cc];omega) t
   refine ah ?_;exact⟨R.bh,A,O,R.st,R.start,R.wu,λl b=>(R.lF l b).resolve_left (by simp),J,R.xg⟩
 refine v5 (aX 5) @b5 aD ?_;refine ch (Ph R.st.nj J J) ?_;rintro v ab ⟨x,af,rfl,aL,d,z⟩;have aQ:=R.st.xG aL z;have W:x∈Q:=d.subset (ft ..);have j:=R.vO x W;obtain⟨aw,ay⟩:=F x j;have aK:=d.length_eq;have a0:=aC A Q x R.vO W;simp only[cc] at aK;refine rx (aX 7) az aA @aq.len @aq.cell ?_;refine ch (ad5 (aQ.a1 _) aF ok P T (λo a=>(F o (R.wu o a)).1.lw) x aw ay J J J) ?_;rintro v aV ⟨rfl,am,e,p,aR,c⟩;have aZ:=c.Ev;obtain⟨ax,ae⟩:=aB A Q x af e p R.wu R.vO R.Sm d c;have a5:=ad2 n q x;obtain⟨D,an,ao,ar⟩:=c.grow;refine ah ?_;refine .inl ⟨k e p,J,rfl,e,p,O++lj n q x,aR,c.all R.wu (S x j),c.xX (λl b=>R.vO l (d.subset (fs _ b))) (S x j),rfl,ax,J,by rw[b0];omega,λl b=>?_,λo a=>?_,D _ R.start,R.bh.trans ((dq.xG z).trans ((dq.a1 f h ab _).trans am))⟩
 . have mono:rH n q A O l->rH n q e (O++lj n q x) l:=λ⟨aj,al⟩=>
    ⟨λy aS=>by obtain⟨o,i,u⟩:=aj y aS;exact⟨o,D o i,u⟩,λo a=>je _ (al o a)⟩;rcases an l b with h|h
   . rcases R.lF l h with h|h
     . rcases fI.1 (d.symm.subset h) with rfl|h
       . exact .inr ⟨ar,λo a=>iq _ a⟩
       . exact .inl (ao l h)
     . exact .inr (mono h)
   . exact .inl h
 . rcases dv.1 a with a|a
   . exact R.xg o a
   . exact⟨x,j,a⟩
def plain(q:aG):aG:={q with bH:=ad,na:=ad,dn:=0}
structure yC(n:ak)(q:aG)(bt:aq->Prop)(A:List aq)(O:List cx):Prop where
 start:f0 q∈A
 inv:∀l∈A,bt l
 lF:∀l∈A,rH n q A O l
 len:O.length<=400000000000
 xg:∀o∈O,∃l,bt l/\o∈lj n q l
def nG.freeze{M:Mem}{v:V}{O:List cx}(H:nG M v O):∃c d,kg v M=I (.slice (O.map cx.row) c,d)/\∀(i:Nat) a,M[i]? =I (.box a)->d[i]? =I (.box a):=by
 rcases H with⟨rfl,rfl⟩|⟨b,ver,rfl,f,l⟩
 . exact⟨_,_,rfl,λ_ _ h=>h⟩
 . have g:(ver==ver)=U:=beq_self_eq_true _;have j:decide (O.length<=(O.map cx.row).length)=U:=be (by simp);have k:(O.map cx.row).take O.length=O.map cx.row:=eS (by simp);refine⟨.bF,M.set b (.aj 7 (O.map cx.row) ver (max 0 O.length)),?_,λi a h=>?_⟩
   . simp only[kg,f,g,j,cR,bi,be l,k]
   . rw[bo λe=>by subst e;rw[f] at h;cases h];exact h
def aci(n:ak)(q:aG)(e:n.wf)(ok:di n)(al:ka n.aB.length q)(k:q.hE=ad)(bt:aq->Prop)(y:List aq->List aq->Nat)(C:List aq->Prop)(g:we (c8 n q) (plain q) n.bQ bt y C):
 bq aH 15 [.agg n.row,.agg q.row] (λv=>∃A O,v=.tuple [.slice ((oH O).map cx.row) .bF,v0]/\yC (c8 n q) (plain q) bt A O):=by
 have j:=v_ n q e ok al;have M:=wy n q e;have P:=tt n q ok;have d:=(Pv n.bQ e.bQ);have s:(g4 n.bQ).2=0:=by rw[ok.ok.bQ]
 have W:=tz s;have d:bq aH 19 [.agg n.bQ.row] (λv=>v=.tuple [oO n.bQ,v0]):=bq.mono d λv h=>h.2 s;refine bB HZ ?_;simp only[ak.row,aG.row] at j;refine bN @ak.row.eq_1 @aG.row.eq_1 ?_;refine bG j ?_;generalize c8 n q=p at*;simp only[aN.row] at d;simp-implicitDefEqProofs (disch:=omega) only[go_sem,↓aX 8,↓aX 13,↓aX 15,k];obtain⟨f,u⟩:∃f,oO n.bQ=.cq f:=⟨_,rfl⟩;rw[u] at d;refine bG d ?_;simp-implicitDefEqProofs (disch:=omega) only[go_sem,↓aX 20,↓aX 22,↓aX 24,↓aX 26,b5];refine ch (Pg n.bQ) ?_;rintro v N ⟨rfl,B,rfl,r⟩;refine aL @b5 ?_;obtain⟨N,b⟩:∃N,N=[au.box n.row,.box q.row,.box p.row,.map [],hr p (plain q) 3 5 (.slice [] .nil),B]:=⟨_,rfl⟩;have K:bW p (plain q) n.bQ 4 5 [] [] [] N:=by
  refine⟨⟨3,.slice [] .nil,[],by rw[b];rfl,.inl ⟨rfl,rfl⟩,⟨by rw[b];rfl,List.nodup_nil,λ_ h=>(gh h).elim,λ_ h=>(gh h).elim⟩⟩,r.cj (by rw[b];rfl) λi R ver a=>?_⟩;match i,a with
  |0,a=>cases a
  |1,a=>cases a
  |2,a=>cases a
  |3,a=>cases a
  |4,a=>cases a
  |i+5,a=>rw[b];rfl
 have Y:N[1]? =I (.box q.row):=by rw[b];rfl
 simp only[hr,plain,ak.row,aG.row,k] at b;rw[<-b];clear b r j d;have x:=ab9 K M P e.bQ W bt y C g;have S:e5 n.bQ []=.cq f:=u;rw[S] at x;refine fE (aX 28) ?_;refine ch x ?_;rintro v a8 ⟨rfl,bh,A,O,H,L,G,Q,X,T⟩;have l:=bh _ _ Y (by decide) (by decide);obtain⟨m,o,E,aD,ba,bA⟩:=H.box;obtain⟨c,z,Z,D⟩:=ba.freeze;have w:=D _ _ l;have t:=Su q O c k J;simp only[hr] at aD;simp only[aG.row] at l w t;have V:qW (.ptr 4 21) a8=I (.slice (O.map cx.row) c,z):=by
  have F:dZ 1 ad (.ptr 4 21) a8=I o:=by simp only[dZ,aD];rfl
  simp only[qW,F,Z]
 refine rx (aX 30) @b5 l w V ?_;refine bG t (ah ?_);exact⟨A,O,rfl,L,G,Q,X,T⟩
def aa1{n:ak}(ok:di n):∃d:Int->Nat,ti n.bj d/\∀i:Nat,i<n.ar.length->d i<=6:=by
 obtain⟨d,c⟩:=w3 n n.bj.length (bk _) λk _=>ok.ok.bj.2 k;rw[f_] at c;have s:=ok.ar;refine⟨λx=>(b8 n.ar.length).countP λ(y:Nat)=>decide (d (y:Int)<d x),λx y e=>?_,λi g=>?_⟩
 . have f:=c x y e;obtain⟨l,j,ae,rfl,rfl⟩:=e;obtain⟨k,h⟩:=eb j;obtain⟨b,r⟩:=(ok.ok.bj.2 k l h).dst;refine w1 (a:=l.dst.toNat) _ (λm _ o=>?_) (hh.2 J) ?_ ?_
   . have:=of_decide_eq_true o;exact bR
   . rw[fr b];exact be f
   . rw[fr b];exact h8
 . have:=w1 (a:=i) (p:=λy:Nat=>decide (d (y:Int)<d i)) (q:=λ_=>U) (b8 n.ar.length) (λ_ _ _=>rfl) (hh.2 g) rfl h8;rw[List.countP_eq_length.2 (λ_ _=>rfl),List.length_range] at this;show List.countP _ _<=6;omega
structure Env(n:ak)(q:aG)(d:Int->Nat):Prop where
 ok:di n
 zJ:ti n.bj d
 d6:∀i:Nat,i<n.ar.length->d i<=6
 aM:0<=q.aM/\q.aM<=3155932800
 aY:0<=q.aY/\q.aY<=8
 bD:0<=q.bD/\q.bD<=86400
 src:0<=q.src/\q.src<n.aB.length
structure Ns(n:ak)(x:a7)(i b k:Nat)(r:aV)(B c:aZ):Prop where
 run:x.run=i
 cM:x.cM=b
 ct:x.ct=k
 tw:b<k
 cy:n.ar[i]? =I r
 ds:r.ds=ad
 aeM:r.aO[b]? =I B
 cV:r.aO[k]? =I c
 src:x.src=B.stop
 dst:x.dst=c.stop
 aR:x.aR=B.aR
 aQ:x.aQ=c.aQ
 on:x.aT=ad->B.cM=U
def yI(n:ak)(x:a7):Prop:=x.bl=U->∃i b k r B c,Ns n x i b k r B c
def Ay(n:ak)(x:a7):Bool:=match(gR n x.run.toNat)[x.ct.toNat]? with
 |some c=>c.ct
 |none=>ad
def j1(a:List a7):Nat:=a.countP λx=>x.bl&&!x.aT
def rE(n:ak)(a:List a7):Prop:=∀x,a.getLast?=I x->x.bl=U->Ay n x=U
structure nF(n:ak)(bz:List a7):Prop where
 oQ:∀x∈bz,tj x
 ok:∀x∈bz,yI n x
 k9:∀k x y,bz[k]? =I x->bz[k+1]? =I y->x.bl=U->y.aT=ad->Ay n x=U
def nF.vW{n:ak}{b:List a7}(h:nF n b){y:a7}(e:tj y)(l:yI n y)(j:y.aT=ad->rE n b):nF n (b++[y]):=by
 refine⟨λx a=>?_,λx a=>?_,λk x z a c d ae=>?_⟩
 . rcases dv.1 a with a|a
   . exact h.oQ x a
   . rw[dV.1 a];exact e
 . rcases dv.1 a with a|a
   . exact h.ok x a
   . rw[dV.1 a];exact l
 . have i:=(az.1 c).1;rw[b0,hP] at i;rw[et J] at a;by_cases g:k+1<b.length
   . rw[et g] at c;exact h.k9 k x z a c d ae
   . have f:k+1=b.length:=J;rw[f,fH (bk _),hA] at c;cases c;exact j ae x (by rw[List.getLast?_eq_getElem?,show b.length -1=k by omega];exact a) d
structure rP(n:ak)(q:aG)(l:aq):Prop where
 stop:0<=l.place.stop/\l.place.stop<n.aB.length
 s3:∀r∈l.bf,r.wf
 aY:0<=l.aY/\l.aY<=q.aY
 bf:(l.bf.length:Int)<=l.aY
 aM:0<=l.aM/\l.aM<=3155932800
 bD:0<=l.bD/\l.bD<=86400
 bz:nF n l.bz
 ew:(j1 l.bz:Int)<=l.aY
 w4:rE n l.bz
 len:(l.bz.length:Int)<=10*l.aY+1
structure Pl(n:ak)(d:Int->Nat)(l:aq)(i k:Nat)(r:aV)(c:aZ)(x:a7):Prop where
 cy:n.ar[i]? =I r
 cV:r.aO[k]? =I c
 run:l.place.run=i
 cl:l.place.cl=k
 stop:l.place.stop=c.stop
 aM:l.aM=c.aQ
 bl:l.place.bl.wf
 bf:(l.bf.length:Int)+1<=l.aY
 len:(l.bz.length:Int)+d i<=10*l.aY
 last:l.bz.getLast?=I x
 xr:x.bl=U
 aev:x.run=i
 aew:x.ct=k
structure gN(n:ak)(q:aG)(d:Int->Nat)(l:aq):Prop where
 cP:l.place.cP=0∨l.place.cP=1∨l.place.cP=2
 stop:0<=l.place.stop/\l.place.stop<n.aB.length
 s3:∀r∈l.bf,r.wf
 aY:0<=l.aY/\l.aY<=q.aY
 bf:(l.bf.length:Int)<=l.aY
 aM:0<=l.aM/\l.aM<=3155932800
 bD:0<=l.bD/\l.bD<=86400
 bz:nF n l.bz
 ew:(j1 l.bz:Int)<=l.aY
 off:l.place.cP≠1->rE n l.bz/\(l.bz.length:Int)<=10*l.aY+1
 eP:l.place.cP=0->l.bz=[]
 rd:l.place.cP=1->∃i k r c x,Pl n d l i k r c x
def gN.on{n:ak}{q:aG}{d:Int->Nat}{l:aq}(h:gN n q d l)(a:l.place.cP≠1):rP n q l:=
 ⟨h.stop,h.s3,h.aY,h.bf,h.aM,h.bD,h.bz,h.ew,(h.off a).1,(h.off a).2⟩
def gN.gk{n:ak}{q:aG}{d:Int->Nat}{l:aq}(h:gN n q d l)(f:l.place.cP=1)(a:mb n l=U):rP n q (gk l)/\((gk l).bz.length:Int)<=10*l.aY:=by
 obtain⟨i,k,r,c,x,R⟩:=h.rd f;have:=R.len;refine⟨⟨h.stop,λy b=>(fI.1 b).elim (λe=>e▸R.bl) (h.s3 y),h.aY,?_,h.aM,h.bD,h.bz,h.ew,?_,?_⟩,?_⟩
 . have:=R.bf;show(((l.place.bl::l.bf).length:Nat):Int)<=l.aY;simp only[cc];omega
 . intro y b _;have g:y=x:=by
    have:l.bz.getLast?=I y:=b;rw[R.last] at this;exact(mN this).symm
   subst g;unfold Ay;unfold mb at a;rw[R.aev,R.aew];rw[R.run,R.cl] at a;exact a
 . show(l.bz.length:Int)<=10*l.aY+1;omega
 . show(l.bz.length:Int)<=10*l.aY;omega
def ac9{n:ak}(ok:di n){z:Int}(h:0<=z/\z<n.aB.length):∃s,n.aB[z.toNat]? =I s/\0<=z/\dS n z=s.change/\0<=s.change/\s.change<=3600:=by obtain⟨s,ae⟩:∃s,n.aB[z.toNat]? =I s:=⟨n.aB[z.toNat]'J,by simp⟩;have a:=ok.ok.aB.2 _ s ae;exact⟨s,ae,h.1,by simp only[dS,ae],a.2.2.1.1,a.2.2.1.2⟩
def gN.c4{n:ak}{q:aG}{d:Int->Nat}{l:aq}(E:Env n q d)(h:gN n q d l):oq l/\yG n l:=by
 have f:=E.aY;have b:=h.aY;have e:=h.bf;refine⟨⟨⟨h.s3,J⟩,?_,b.1,J,h.bz.oQ,h.aM,h.bD⟩,⟨ac9 E.ok h.stop,λa=>?_⟩⟩
 . by_cases a:l.place.cP=1
   . obtain⟨i,k,r,c,x,R⟩:=h.rd a;have:=R.len;omega
   . have:=(h.off a).2;omega
 . obtain⟨i,k,r,c,x,R⟩:=h.rd a;have:=R.bf;exact⟨J,R.bl,i,k,r,c,R.cy,R.cV,R.run,R.cl,R.stop⟩
def aI.aeE{r:aI}(h:r.wf)(z:Int):(r.hz z).wf:=⟨h.1,h.2.1,vI _ _,h.2.2.2⟩
def aI.ZD{r:aI}(h:r.wf)(z:Int):(r.fA z).wf:=⟨h.1,h.2.1,h.2.2.1,vI _ _⟩
def aI.Qp{n:ak}{r:aI}(h:r.wf){c:aZ}(a:0<=c.aQ/\c.aQ<=3155932800):(r.at n c).wf:=by refine⟨h.1,?_,vI _ _,h.2.2.2⟩;show dd c.aQ;unfold dd;omega
def abH{n:ak}{r:aV}{B:aZ}{a:aI}(h:a.wf):(pa n r B a).wf:=aI.aeE (aI.ZD h _) _
def wQ{n:ak}(ok:di n){i k:Nat}{r:aV}{c:aZ}(b:n.ar[i]? =I r)(a:r.aO[k]? =I c):(0<=c.stop/\c.stop<n.aB.length)/\(0<=c.aQ/\c.aQ<=3155932800)/\0<=c.aR/\c.aR<=3155932800:=by have h:=(ok.ok.ar.2 i r b).2.2.2.2.2.1.2.2 k c a;have d:=h.2.1;exact⟨h.1,J,J⟩
theorem L3{n:ak}(ok:di n){l:aq}{i b:Nat}{aT:Bool}{B:aZ}{r:aV}(p:n.ar[i]? =I r):∀{g:List aZ}{k:Nat}{d:aI},(∀(j:Nat)(c:aZ),g[j]? =I c->r.aO[k+j]? =I c)->d.wf->
 ∀x∈il n l i b aT B g k d,∃m c e,k<=m/\r.aO[m]? =I c/\e.wf/\x=jw l i b aT B c m e
 |[],_,_,_,_,x,a=>by cases a
 |c::g,k,d,o,u,x,a=>by
  have h:=o 0 c rfl;have q:(d.at n c).wf:=aI.Qp u (wQ ok p h).2.1;rcases dv.1 a with a|a
  . split at a
    . exact⟨k,c,_,bk _,h,q,dV.1 a⟩
    . cases a
  . obtain⟨m,f,e,v,s⟩:=L3 ok p (λj f t=>by have:=o (j+1) f t;rwa [show k+(j+1)=k+1+j by omega] at this) q x a;exact⟨m,f,e,J,s⟩
def LS{n:ak}(ok:di n){l:aq}{i b:Nat}{aT:Bool}{B:aZ}{r:aV}(d:n.ar[i]? =I r)(h:r.aO[b]? =I B){f:aI}(p:f.wf):∀x∈fR n l i b aT f,∃m c a,b<m/\r.aO[m]? =I c/\a.wf/\x=jw l i b aT B c m a:=by intro x e;simp only[fR,d,h] at e;obtain⟨m,c,a,q,g⟩:=L3 ok d (k:=b+1) (λj c o=>by rwa [h2] at o) (abH p) x e;exact⟨m,c,a,J,g⟩
def JM(a:List a7)(x:a7):j1 (a++[x])=j1 a+if x.bl&&!x.aT then 1 else 0:=by simp only[j1,List.countP_append,List.countP_cons,List.countP_nil];omega
def L8{n:ak}{q:aG}{d:Int->Nat}(E:Env n q d){l:aq}{i b k:Nat}{aT:Bool}{r:aV}{B c:aZ}{j:aI}(e:n.ar[i]? =I r)(s:r.ds=ad)(g:r.aO[b]? =I B)(f:r.aO[k]? =I c)(o:b<k)(w:j.wf)(u:aT=ad->B.cM=U)
 (z:∀x∈l.bf,x.wf)(v:l.aY<=q.aY)(m:(l.bf.length:Int)+1<=l.aY)(y:0<=l.bD/\l.bD<=86400)(t:nF n l.bz)(a:(j1 l.bz:Int)+(if aT then 0 else 1)<=l.aY)(p:aT=ad->rE n l.bz)(A:(l.bz.length:Int)+1+d i<=10*l.aY):
 gN n q d (jw l i b aT B c k j):=by
 obtain⟨c1,c2,_⟩:=wQ E.ok e f;obtain⟨_,_,c3⟩:=wQ E.ok e g;refine⟨.inr (.inl rfl),c1,z,⟨?_,v⟩,?_,c2,y,t.vW ⟨c2,?_⟩ (λ_=>⟨i,b,k,r,B,c,rfl,rfl,rfl,o,e,s,g,f,rfl,rfl,rfl,rfl,u⟩) p,?_,λh=>aJ rfl h,λh=>?_,λ_=>⟨i,k,r,c,_,e,f,rfl,rfl,rfl,rfl,w,m,?_,List.getLast?_concat,rfl,rfl,rfl⟩⟩
 . show 0<=l.aY;omega
 . show(l.bf.length:Int)<=l.aY;omega
 . show-3155932800<=c.aQ -B.aR/\c.aQ -B.aR<=3155932800;omega
 . show((j1 (l.bz++[p9 i b aT B c k]):Nat):Int)<=l.aY;rw[JM];cases aT
   . simp only[p9] at a⊢;simp at a⊢;omega
   . simp only[p9] at a⊢;simp at a⊢;omega
 . exact aJ h (by show(1:Int)≠0;omega)
 . show(((l.bz++[p9 i b aT B c k]).length:Nat):Int)+d i<=10*l.aY;rw[b0,hP];omega
def acv{n:ak}{l:aq}{x:a7}(e:l.bz=[x])(d:x.bl=ad){t:Int}(h:nF n l.bz)(i:0<=t/\t<=3155932800):nF n [ph x t]/\j1 [ph x t]=j1 l.bz/\rE n [ph x t]:=by
 have g:=h.oQ x (by rw[e];exact dV.2 rfl);have b:(ph x t).bl=ad:=d;refine⟨⟨λy a=>?_,λy a=>?_,λk y z a f _ _=>?_⟩,?_,λy a j=>?_⟩
 . rw[dV.1 a];refine⟨i,?_⟩;show-3155932800<=t -(x.aR+(t -x.aQ))/\t -(x.aR+(t -x.aQ))<=3155932800;have:=g.2;omega
 . rw[dV.1 a];intro h;rw[b] at h;cases h
 . rw[List.getElem?_cons_succ,List.getElem?_nil] at f;cases f
 . rw[e];show List.countP _ _=List.countP _ _;simp only[List.countP_cons,List.countP_nil,d,b,Bool.false_and]
 . cases a;have c:(ph x t).bl=U:=j;rw[b] at c;cases c
def y_{n:ak}{q:aG}{d:Int->Nat}(E:Env n q d){l:aq}(h:rP n q l){i k:Nat}{r:aV}{c:aZ}(e:n.ar[i]? =I r)(g:r.aO[k]? =I c)(A:r.ds=ad)(z:c.cM=U):∀x∈fw n q l i k,gN n q d x:=by
 intro x a;unfold fw at a;split at a
 . cases a
 rename_i S;simp only[gR,e,g] at a;obtain⟨_,_,K,L⟩:=wQ E.ok e g;have B:=(az.1 e).1;have R:=E.d6 i B;have N:=h.aY;have O:=h.bf;have P:=h.ew;have Q:=h.len;have key:∀b:aq,b.bf=l.bf->b.aY=l.aY+1->b.bD=l.bD->nF n b.bz->j1 b.bz=j1 l.bz->rE n b.bz->b.bz.length=l.bz.length->x∈fR n b i k ad ⟨c.aR,0,0,0⟩->gN n q d x:=by
  intro b o f s t u v w a;have j:dd 0:=by unfold dd;omega
  obtain⟨m,M,T,D,F,G,rfl⟩:=LS E.ok e g ⟨by show dd c.aR;unfold dd;omega,j,j,j⟩ x a;refine L8 E e A g F D G (λ_=>z) (by rw[o];exact h.s3) (by rw[f];omega) (by rw[o,f];omega) (by rw[s];exact h.bD) t ?_ (λ_=>v) ?_
  . rw[u,f];simp;omega
  . rw[w,f];omega
 unfold iD at a;split at a
 . rename_i y p;split at a
   . rename_i C;obtain⟨H,bP,J⟩:=acv p C h.bz ⟨K,L⟩;exact key {l with aY:=l.aY+1,bz:=[ph y c.aR],tag:=.full} rfl rfl rfl H bP J (by rw[p];rfl) a
   . exact key {l with aY:=l.aY+1} rfl rfl rfl h.bz rfl h.w4 rfl a
 . exact key {l with aY:=l.aY+1} rfl rfl rfl h.bz rfl h.w4 rfl a
theorem Dp{n:ak}{q:aG}{d:Int->Nat}(E:Env n q d){l:aq}(h:rP n q l){t:Int}{i:Nat}{r:aV}(g:n.ar[i]? =I r):∀{b:List aZ}{k:Nat},(∀(j:Nat)(c:aZ),b[j]? =I c->r.aO[k+j]? =I c)->∀x∈kS n q l t r i b k,gN n q d x
 |[],_,_,x,a=>by cases a
 |c::b,k,f,x,a=>by
  rcases dv.1 a with a|a
  . unfold pA at a;split at a
    . rename_i e;simp only[m1,bL,hM] at e;exact y_ E h g (f 0 c rfl) e.1 e.2.1 x a
    . cases a
  . exact Dp E h g (λj m o=>by have:=f (j+1) m o;rwa [show k+(j+1)=k+1+j by omega] at this) x a
theorem Dr{n:ak}{q:aG}{d:Int->Nat}(E:Env n q d){l:aq}(h:rP n q l){t:Int}:∀{b:List aV}{i:Nat},(∀(j:Nat)(r:aV),b[j]? =I r->n.ar[i+j]? =I r)->∀x∈lA n q l t b i,gN n q d x
 |[],_,_,x,a=>by cases a
 |r::b,i,f,x,a=>by
  rcases dv.1 a with a|a
  . exact Dp E h (f 0 r rfl) (λj c e=>by rwa [dm]) x a
  . exact Dr E h (λj g e=>by have:=f (j+1) g e;rwa [show i+(j+1)=i+1+j by omega] at this) x a
def y6{n:ak}{q:aG}{d:Int->Nat}(E:Env n q d){l:aq}(h:rP n q l)(t:Int):∀x∈gD n q l t,gN n q d x:=Dr E h λj r a=>by rwa [dm]
theorem B9{n:ak}{q:aG}{d:Int->Nat}(E:Env n q d){l:aq}(h:rP n q l)(m:(l.bz.length:Int)<=10*l.aY):∀{c:List bb},(∀p∈c,p∈n.bw)->∀x∈nv q l c,gN n q d x
 |[],_,x,a=>by cases a
 |p::c,f,x,a=>by
  rcases dv.1 a with a|a
  . unfold qi at a;split at a
    . rename_i r;rw[dV.1 a];simp only[nx,bL,hM,cZ,decide_eq_false_iff_not] at r;obtain⟨i,j⟩:=eb (f p (ft ..));obtain⟨⟨_,g,ae⟩,_⟩:=E.ok.ok.sO i p j;have t:=h.aM;have u:=h.bD;have v:=E.bD;have k:nF n (l.bz++[⟨ad,0,0,0,l.place.stop,p.dst,l.aM,l.aM+p.bs,ad⟩]):=h.bz.vW ⟨?_,?_⟩ (λe=>by cases e) λ_=>h.w4
      . refine⟨.inr (.inr rfl),g,h.s3,h.aY,h.bf,?_,?_,k,?_,λ_=>⟨?_,?_⟩,λe=>aJ e (by show(2:Int)≠0;omega),λe=>aJ e (by show(2:Int)≠1;omega)⟩
        . show 0<=l.aM+p.bs/\l.aM+p.bs<=3155932800;omega
        . show 0<=l.bD+p.bs/\l.bD+p.bs<=86400;omega
        . show((j1 (l.bz++[_]):Nat):Int)<=l.aY;rw[JM];have:=h.ew;simpa using this
        . intro y b s;have b:(l.bz++[(⟨ad,0,0,0,l.place.stop,p.dst,l.aM,l.aM+p.bs,ad⟩:a7)]).getLast?=I y:=b;rw[List.getLast?_concat] at b;cases b;cases s
        . show(((l.bz++[_]).length:Nat):Int)<=10*l.aY+1;rw[b0,hP];omega
      . show 0<=l.aM+p.bs/\l.aM+p.bs<=3155932800;omega
      . show-3155932800<=l.aM+p.bs -l.aM/\l.aM+p.bs -l.aM<=3155932800;omega
    . cases a
  . exact B9 E h m (λp o=>f p (fs _ o)) x a
theorem x8{n:ak}{q:aG}{d:Int->Nat}(E:Env n q d){l:aq}(h:gN n q d l)(g:l.place.cP=1):∀{v:List b1},(∀p∈v,p∈n.bj)->∀x∈kD n l v,gN n q d x
 |[],_,x,a=>by cases a
 |p::M,s,x,a=>by
  rcases dv.1 a with a|a
  . unfold mE at a;split at a
    . rename_i u;simp only[ik,bL,cZ] at u;obtain⟨G,bP,P,b⟩:=u;obtain⟨i,k,r,c,y,R⟩:=h.rd g;have o:=s p (ft ..);obtain⟨j,A⟩:=eb o;obtain⟨w,K⟩:=(E.ok.ok.bj.2 j p A).dst;have z:=E.zJ p.src p.dst ⟨p,o,G,rfl,rfl⟩;rw[bP,R.run] at z;unfold sj at b;split at b
      . rename_i N t;split at b
        . rename_i H f;simp only[bL,hM] at b;obtain⟨m,J,O,C,D,F,rfl⟩:=LS E.ok t f R.bl x a;have L:=R.len;refine L8 E t b.1 f D C F (λe=>by cases e) h.s3 h.aY.2 R.bf h.bD h.bz ?_ (λe=>by cases e) ?_
          . have:=h.ew;simpa using this
          . rw[fr w];omega
        . cases b
      . cases b
    . cases a
  . exact x8 E h g (λp B=>s p (fs _ B)) x a
def Z1{n:ak}{q:aG}{d:Int->Nat}(E:Env n q d){l:aq}(h:gN n q d l):∀x∈fO n q l,gN n q d x:=by
 intro x a;unfold fO at a;split at a
 . rename_i b;rcases dv.1 a with a|a
   . exact x8 E h b (λ_ h=>h) x a
   . unfold kz at a;split at a
     . rename_i f;obtain⟨c,e⟩:=h.gk b f;rcases dv.1 a with a|a
       . exact y6 E c _ x a
       . exact B9 E c e (λ_ h=>h) x a
     . cases a
 . rename_i b;split at a
   . exact y6 E (h.on b) _ x a
   . rename_i j;have i:=h.cP;have g:l.bz=[]:=h.eP J;rcases dv.1 a with a|a
     . exact y6 E (h.on b) _ x a
     . refine B9 E (h.on b) ?_ (λ_ h=>h) x a;have:=h.aY;rw[g,eu];omega
def BI{n:ak}{q:aG}{d:Int->Nat}(E:Env n q d):gN n q d (f0 q):=by
 have a:=E.aY;refine⟨.inl rfl,E.src,λ_ h=>(gh h).elim,⟨fS 0,a.1⟩,fS 0,E.aM,⟨fS 0,by show(0:Int)<=86400;omega⟩,⟨λ_ h=>(gh h).elim,λ_ h=>(gh h).elim,λk x y h=>?_⟩,fS 0,λ_=>⟨λx h=>?_,?_⟩,λ_=>rfl,λh=>aJ h ?_⟩
 . cases h
 . cases h
 . show(0:Int)<=10*0+1;omega
 . show(0:Int)≠1;omega
def kN:Nat->Nat
 |0=>10
 |r+1=>10+84*(35*(1+kN r))
def Cj:Nat->Nat
 |0=>0
 |r+1=>35*(1+kN r)
def ic(q:aG)(l:aq):Nat:=(q.aY -l.aY).toNat
def P_(a:List aV):List Int:=a.flatMap λr=>r.aO.map (·.stop)
def mJ(n:ak)(q:aG)(d:Int->Nat)(l:aq):Nat:=
 if l.place.cP=1 then(1+kN (ic q l))*(1+if l.place.cl+1=((gR n l.place.run.toNat).length:Int) then 5*d l.place.run else 0)
 else if l.place.cP=2 then 1+Cj (ic q l)*(P_ n.ar).count l.place.stop
 else 1+kN (ic q l)
theorem L6{n:ak}{q:aG}{d:Int->Nat}{l:aq}{i b:Nat}{aT:Bool}{B:aZ}{len:Nat}(e:(gR n i).length=len):∀{cs:List aZ}{k:Nat}{rd:aI},k+cs.length=len->
 c5 (mJ n q d) (il n l i b aT B cs k rd)<=(1+kN (ic q l))*(cs.length+if cs.isEmpty then 0 else 5*d i)
 |[],_,_,_=>c_ _
 |c::cs,k,rd,a=>by
  rw[cc] at a;have h:=L6 (q:=q) (d:=d) (l:=l) (b:=b) (aT:=aT) (B:=B) e (cs:=cs) (k:=k+1) (rd:=rd.at n c) J;have g:mJ n q d (jw l i b aT B c k (rd.at n c))=(1+kN (ic q l))*(1+if(k:Int)+1=len then 5*d i else 0):=by rw[<-e];simp only[mJ,jw,ic,if_true];rfl
  have f:c5 (mJ n q d) (if c.ct||mF n i k then[jw l i b aT B c k (rd.at n c)] else[])<=(1+kN (ic q l))*(1+if(k:Int)+1=len then 5*d i else 0):=by
   split
   . simp only[c5,g,g_];exact bk _
   . exact c_ _
  show c5 _ (_++_)<=_;rw[vX];refine fJ (Nat.add_le_add f h) ?_;rw[<-Nat.mul_add];refine Nat.mul_le_mul_left _ ?_;simp only[cc,List.isEmpty_cons,gX,if_false];cases cs with
  |nil=>simp only[eu,List.isEmpty_nil,if_true];split<;>omega
  |cons j m=>simp only[cc] at a⊢;rw[ax J];simp only[List.isEmpty_cons,gX,if_false];omega
def LW{n:ak}{q:aG}{d:Int->Nat}{l:aq}{i b:Nat}{aT:Bool}{e:aI}{r:aV}{B:aZ}(c:n.ar[i]? =I r)(a:r.aO[b]? =I B):
 c5 (mJ n q d) (fR n l i b aT e)<=(1+kN (ic q l))*(r.aO.length -1+5*d i):=by
 have f:=(az.1 a).1;simp only[fR,c,a];refine fJ (L6 (n:=n) (q:=q) (d:=d) (len:=r.aO.length) (by simp only[gR,c]) (by rw[kJ];omega)) (Nat.mul_le_mul_left _ ?_);rw[kJ];split<;>omega
theorem vc(l:aq)(t:Int):(iD l t).aY=l.aY+1:=by
 unfold iD;split
 . split<;>rfl
 . rfl
def Q1{n:ak}{q:aG}{d:Int->Nat}(E:Env n q d){l:aq}(j:l.aY<=q.aY){i k:Nat}{r:aV}{c:aZ}(a:n.ar[i]? =I r)(b:r.aO[k]? =I c):c5 (mJ n q d) (fw n q l i k)<=Cj (ic q l):=by
 unfold fw;split
 . exact c_ _
 . rename_i o;simp only[gR,a,b];refine fJ (LW (q:=q) (d:=d) a b) ?_;have g:=E.d6 i (az.1 a).1;have h:=E.ok.aO r (bI a);obtain⟨m,e⟩:∃m,ic q l=m+1:=⟨ic q l -1,by unfold ic;omega⟩;have f:ic q (iD l c.aR)=m:=by unfold ic at e⊢;rw[vc];omega
   rw[e,f];show _<=35*(1+kN m);rw[Nat.mul_comm 35];exact Nat.mul_le_mul_left _ J
theorem Ej{K:List Int}{m:Nat}(h:∀t,K.count t<=m):∀L:List Int,c5 (λt=>L.count t) K<=m*L.length
 |[]=>by
  have:∀K:List Int,c5 (λt=>([]:List Int).count t) K=0:=λK=>by induction K with|nil=>rfl|cons _ _ a=>simpa[c5] using a
  rw[this];exact c_ _
 |x::L=>by
  have a:=Ej h L;have c:∀K:List Int,c5 (λt=>(x::L).count t) K=c5 (λt=>L.count t) K+K.count x:=λK=>by
   induction K with
   |nil=>rfl
   |cons t K a=>
    show(x::L).count t+c5 _ K=(L.count t+c5 _ K)+_;rw[a,List.count_cons,List.count_cons];by_cases b:x=t
    . subst b;simp;omega
    . have d:(x==t)=ad:=by simpa using b
      have f:(t==x)=ad:=by simpa usingλe:t=x=>b e.symm
      simp[d,f];omega
  have:=h x;rw[c,cc,Nat.mul_add];omega
def nw(a:List bb)(s:Int):List Int:=(a.filter λp=>decide (p.src=s)).map (·.dst)
theorem Lw{α:Type}{f g:α->Nat}:∀{l:List α},(∀x∈l,f x<=g x)->c5 f l<=c5 g l
 |[],_=>bk _
 |x::l,h=>by have:=Lw (l:=l) λy a=>h y (fs _ a);have:=h x (ft ..);simp only[c5];omega
theorem Lx{α:Type}(f:α->Nat)(c:Nat):∀{l:List α},(∀x∈l,f x=0)∨(∃i:Nat,∀(k:Nat)(x:α),l[k]? =I x->k≠i->f x=0)->(∀x∈l,f x<=c)->c5 f l<=c
 |[],_,_=>c_ _
 |x::l,h,d=>by
  have zero:∀{m:List α},(∀y∈m,f y=0)->c5 f m=0:=λ{m} j=>by
   have:=Lw (f:=f) (g:=λ_=>0) (l:=m) λy a=>by rw[j y a];exact bk _
   have z:∀m:List α,c5 (λ_=>0) m=0:=λm=>by induction m with|nil=>rfl|cons _ _ n=>simpa[c5] using n
   rw[z m] at this;omega
  rcases h with h|⟨i,h⟩
  . rw[zero h];exact c_ _
  . cases i with
    |zero=>
     have:c5 f l=0:=zero λy a=>by obtain⟨k,b⟩:=eb a;exact h (k+1) y (by simpa using b) J
     simp only[c5,this];exact d x (ft ..)
    |succ i=>have e:f x=0:=h 0 x rfl J;have:=Lx f c (l:=l) (.inr ⟨i,λk y b o=>h (k+1) y (by simpa using b) J⟩) λy a=>d y (fs _ a);simp only[c5,e];omega
theorem Q3:∀l:List Bool,l.Nodup->l.length<=2
 |[],_=>by simp
 |[_],_=>by simp
 |[_,_],_=>by simp
 |a::b::c::l,h=>by simp only[List.nodup_cons,fI,not_or] at h;obtain⟨⟨d,e,_⟩,⟨f,_⟩,_⟩:=h;cases a<;>cases b<;>cases c<;>first|exact aJ rfl d|exact aJ rfl e|exact aJ rfl f
def aea{c:List bb}{N:Nat}(ae:nJ c N)(s t:Int):(nw c s).count t<=2:=by
 have l:=((BF c N).1 ae).2;have e:(nw c s).count t=((c.filter λp=>decide (p.src=s)&&decide (p.dst=t)).map (·.bH)).length:=by
  rw[nw,List.count_eq_countP,List.countP_map,List.countP_eq_length_filter,List.filter_filter,cz]
  congr 1
  refine List.filter_congr λp _=>?_;simp only[Function.comp];rw[Bool.and_comm];rfl
 rw[e];refine Q3 _ ?_;rw[List.Nodup,List.pairwise_map];have g:((c.filter λp=>decide (p.src=s)&&decide (p.dst=t))).Pairwise λo p=>¬K2 o p:=l.filter _;refine List.Pairwise.imp_of_mem ?_ g;intro a b h j i k;have d:=(jf.1 h).2;have f:=(jf.1 j).2;simp only[bL,cZ] at d f;exact i ⟨d.1.trans f.1.symm,d.2.trans f.2.symm,k⟩
def aeb{a:List bb}{s t:Int}(h:t∈nw a s):∃p∈a,p.src=s/\p.dst=t:=by obtain⟨p,d,rfl⟩:=gY.1 h;obtain⟨b,c⟩:=jf.1 d;exact⟨p,b,of_decide_eq_true c,rfl⟩
theorem Lj(n:ak)(l:aq)(w:aq->Nat):∀a:List b1,c5 w (kD n l a)=c5 (λx=>c5 w (mE n l x)) a
 |[]=>rfl
 |x::a=>by show c5 _ (_++_)=_;rw[vX,Lj n l w a];rfl
def ac2{n:ak}{q:aG}{d:Int->Nat}(E:Env n q d){l:aq}(h:gN n q d l)(G:l.place.cP=1):
 c5 (mJ n q d) (iK n l)<=(1+kN (ic q l))*(if l.place.cl+1=((gR n l.place.run.toNat).length:Int) then 5*d l.place.run else 0):=by
 obtain⟨i,k,r,c,y,R⟩:=h.rd G;have s:∀x,ik n l x=ad->c5 (mJ n q d) (mE n l x)=0:=λx b=>by unfold mE;rw[b];rfl
 unfold iK;rw[Lj];refine Lx _ _ ?_ λx b=>?_
 . by_cases t:∀x∈n.bj,ik n l x=ad
   . exact .inl λx b=>s x (t x b)
   . obtain⟨x,b,ae⟩:∃x∈n.bj,ik n l x=U:=Classical.byContradiction λH=>t λx b=>by
      cases a:ik n l x with
      |false=>rfl
      |true=>exact aJ ⟨x,b,a⟩ H
     obtain⟨j,g⟩:=eb b;refine .inr ⟨j,λm z w J=>s z ?_⟩;cases a:ik n l z with
     |false=>rfl
     |true=>
      exfalso;simp only[ik,bL,cZ] at ae a;have e:x.src=z.src:=ae.2.1.trans a.2.1.symm;rcases Nat.lt_or_gt_of_ne J with o|o
      . exact((E.ok.ok.bj.2 j x g).ry ae.1 m z o w a.1).1 e.symm
      . exact((E.ok.ok.bj.2 m z w).ry a.1 j x o g ae.1).1 e
 . cases a:ik n l x with
   |false=>rw[s x a];exact c_ _
   |true=>
    obtain⟨j,g⟩:=eb b;have v:=E.ok.ok.bj.2 j x g;have u:=a;simp only[ik,bL,cZ] at u;obtain⟨B,bP,Q,f⟩:=u;obtain⟨C,M⟩:=v.dst;have P:=E.zJ x.src x.dst ⟨x,b,B,rfl,rfl⟩;unfold sj at f;split at f
    . rename_i A p;split at f
      . rename_i L D;have K:n.ar[x.src.toNat]? =I r:=by rw[bP,R.run];exact R.cy
        obtain⟨N,_⟩:=(v.aO r A K p).2.2.2 B;have F:gR n l.place.run.toNat=r.aO:=by rw[R.run];simp only[gR,dU,R.cy]
        rw[aF (by rw[F];omega)];unfold mE;rw[a,aF rfl];refine fJ (LW (q:=q) (d:=d) p D) (Nat.mul_le_mul_left _ ?_);have O:=E.ok.aO A (bI p);rw[fr C,<-bP];omega
      . cases f
    . cases f
section
variable(f:aN)(t:cg)
theorem CZ(l:List aI)(i k:Nat)(R:Nat->Option (List bK))(a:Option (List bK)):∀p,jm {f with tag:=t} l i k R a p=jm f l i k R a p
 |0=>rfl
 |p+1=>by show lg (jm _ l i k R a p) (hF f l i k p R)=_;rw[CZ];rfl
theorem CS(l:List aI)(i:Nat)(R:Nat->Option (List bK)):∀j,it {f with tag:=t} l i R j=it f l i R j
 |0=>rfl
 |j+1=>by show jm _ l i (i+j) R (it _ l i R j) f.bU.length=_;rw[CS,CZ];rfl
theorem LD(l:List aI):∀j,eG {f with tag:=t} l j=eG f l j
 |0=>rfl
 |j+1=>by show hL (eG _ l j) _ (it _ l _ (eG _ l j) (j+1))=_;rw[LD,CS];rfl
theorem TX(l:List aI):gT {f with tag:=t} l=gT f l:=by unfold gT hS;rw[LD];rfl
end
def TW(n:ak)(q:aG)(l:List aI):gT (c8 n q).bQ l=gT n.bQ l:=TX n.bQ _ l
def Bq(n:ak)(q:aG)(i:Nat):(c8 n q).ar[i]? =(n.ar[i]?).map (hI n q):=dK
theorem R6(n:ak)(q:aG)(i:Nat):gR (c8 n q) i=(gR n i).map (f6 n q):=by simp only[gR,Bq];cases n.ar[i]? <;>rfl
def aeA(n:ak)(q:aG):∀(b:List aZ),lX (c8 n q) (b.map (f6 n q))=lX n b:=by
 have:∀(b:List aZ)(a:Nat),(b.map (f6 n q)).foldl (λz c=>z|||g0 (lm (c8 n q) c.stop)) a=b.foldl (λz c=>z|||g0 (lm n c.stop)) a:=λb=>by
  induction b with
  |nil=>exactλ_=>rfl
  |cons c b d=>intro a;simp only[gg,List.foldl_cons,uk,d];rfl
 exactλb=>this b 0
def aey(n:ak)(q:aG)(l:a7):qk (c8 n q) l=qk n l:=by
 have e:mr (c8 n q) l=(mr n l).map (f6 n q):=by simp only[mr,R6,List.map_take,List.map_drop]
 unfold qk;rw[e,aeA]
theorem Zc(n:ak)(q:aG)(l:a7):oS (c8 n q) l=oS n l:=by unfold oS;rw[Bq];cases n.ar[l.run.toNat]? <;>rfl
theorem TM(n:ak)(q:aG)(l:a7):ku (c8 n q) l=ku n l:=by
 unfold ku;rw[Bq];cases n.ar[l.run.toNat]? with
 |none=>rfl
 |some r=>show(_&&(_&&(_&&decide (l.ct<(((r.aO.map (f6 n q)).length:Nat):Int)))))=_;rw[cz]
theorem KN(n:ak)(q:aG):∀(a:List a7)(b:Bool)(out:List aI),kC (c8 n q) b a out=kC n b a out
 |[],_,_=>rfl
 |l::c,b,out=>by
  unfold kC;rw[TM];have e:ii (c8 n q) out l=ii n out l:=by unfold ii Bl sI;rw[aey,Zc]
  rw[e,KN n q c]
def abO(n:ak)(q:aG)(a:List a7):fo (c8 n q) a=fo n a:=KN n q a _ _
def abL(n:ak)(out:List aI)(l:a7):(ii n out l).length<=out.length+if l.aT then 0 else 1:=by
 unfold ii;split
 . split<;>simp
 . rename_i h;have:l.aT=ad:=by simpa using h
   simp
theorem KO(n:ak):∀(c:List a7)(b:Bool)(out:List aI),(kC n b c out).2.length<=out.length+j1 c
 |[],_,out=>bk _
 |l::a,b,out=>by
  have e:j1 (l::a)=j1 a+if l.bl&&!l.aT then 1 else 0:=by unfold j1;rw[List.countP_cons]
  unfold kC;split
  . exact c_ _
  . split
    . exact c_ _
    . refine fJ (KO n a _ _) ?_;rw[e];cases d:l.bl with
      |false=>simp
      |true=>rw[aF rfl];have:=abL n out l;cases ae:l.aT<;>simp[ae] at this⊢<;>omega
def abP(n:ak)(a:List a7):(fo n a).2.length<=j1 a:=by have:=KO n a ad [];rwa [eu,dm] at this
structure Cw(n:ak)(q:aG)(o:cx):Prop where
 bz:nF n o.bz
 w4:rE n o.bz
 ew:(j1 o.bz:Int)<=q.aY
 len:o.bz.length<=1000
 lc:o.lc=.bF
 BX:o.BX=.bF
 dW:o.dW=(iA n q o.bz).1
 v7:o.v7=(iA n q o.bz).2.1
 ok:(iA n q o.bz).2.2=0
def Cw.sd{n:ak}{q f:aG}{o:cx}(h:Cw (c8 n q) f o):(fo n o.bz).1=0/\(gT n.bQ (fo n o.bz).2).2.2=0/\o.dW.sd=(gT n.bQ (fo n o.bz).2).1/\o.v7=(gT n.bQ (fo n o.bz).2).2.1:=by
 have b:=h.dW;have c:=h.v7;have a:=h.ok;unfold iA at b c a;simp only[abO,TW] at b c a;by_cases d:(fo n o.bz).1=0
 . rw[ax (by simpa using d)] at b c a;by_cases e:(gT n.bQ (fo n o.bz).2).2.2=0
   . rw[ax (by simpa using e)] at b c;exact⟨d,e,by rw[b],c⟩
   . rw[aF e] at a;exact aJ a e
 . rw[aF d] at a;exact aJ a d
def qH:cv:=⟨[102,114,101,101],0,1,16,0,255⟩
structure j7(f:aN):Prop where
 p7:f.bU=[qH]
 zI:f.hG=0
 aee:f.e4=0
 YK:f.kf=0
def gC(r:aI):Prop:=(0<=r.er/\r.er<65536)/\0<=r.dn/\r.dn<256
theorem Kj:∀(n k a:Nat),a<2^k->pop n a<=k
 |0,_,_,_=>by rw[pop];exact c_ _
 |n+1,0,a,h=>by
  obtain rfl:a=0:=by simp at h;exact h
  rw[Kl];exact bk _
 |n+1,k+1,a,h=>by have:=Kj n k (a/2) (by rw[Nat.pow_succ] at h;omega);rw[pop];omega
theorem SX{r:aI}(h:gC r):iS qH [r]=U:=by
 obtain⟨⟨l,m⟩,j,k⟩:=h;have g:ix r.er<2^16:=by unfold ix;omega
 have f:ix r.dn<2^8:=by unfold ix;omega
 have i:=Kj 64 16 _ g;have a:rC [r]=ix r.er:=by simp[rC]
 have b:qY [r]=ix r.dn:=by simp[qY]
 have c:oV (ix r.dn) (ix qH.dn)=0:=by show oV (ix r.dn) (2^8 -1)=0;rw[oV,Nat.and_two_pow_sub_one_eq_mod,Nat.mod_eq_of_lt f,Nat.xor_self]
 have d:sP [r]=0:=by simp[sP]
 have e:((pop 64 (ix r.er):Nat):Int)<=qH.er:=by show _<=(16:Int);omega
 unfold iS;rw[a,b,c,d,be e];rfl
theorem adr{f:aN}(a:j7 f)(l:List aI)(i:Nat):gy f qH l i=0:=by
 unfold gy;split
 . rw[a.zI];split<;>rfl
 . rfl
theorem EB{f:aN}(a:j7 f){l:List aI}(b:∀r∈l,gC r):∀m i:Nat,i+m=l.length->∃d,Div f l i d/\fp d=0
 |0,i,h=>⟨[],by show i=l.length;omega,rfl⟩
 |m+1,i,h=>by
  obtain⟨d,e,g⟩:=EB a b m (i+1) J;obtain⟨r,c⟩:∃r,l[i]? =I r:=⟨l[i]'J,by simp⟩;have j:part l i i=[r]:=by unfold part;rw[show i+1 -i=1 by omega,mM J,(az.1 c).2];rfl
  refine⟨_,w2 (p:=0) (q:=qH) (by rw[a.p7];rfl) (bk i) J (by rw[j];exact SX (b r (bI c))) e,?_⟩;rw[adr a];simpa[fp] using g
def AL{f:aN}(b:j7 f)(e:f.Ok){l:List aI}(c:∀r∈l,gC r):fe f l=0:=by obtain⟨d,a,g⟩:=EB b c l.length 0 J;have:=AN e a;omega
def Ta{f:aN}(c:j7 f)(d:f.Ok){a b:List aI}(g:∀r∈a,gC r)(i:∀r∈b,gC r):tg f a b:=
 ⟨λp e=>by rw[c.p7] at e;rw[dV.1 e];exact fS 1,c.zI,AL c d λr h=>g r (List.mem_reverse.1 h),AL c d λr h=>i r (List.mem_reverse.1 h)⟩
theorem T2{f:aN}(c:j7 f)(g:f.Ok)(b:(g4 f).2=0){l:List aI}(e:∀r∈l,gC r)(i:l.length<=8):(gT f l).2.2=0:=by
 have h:=AL c g e;unfold gT;rw[ax (by simp[nu,b];omega)];unfold fe at h;cases a:hS f l 0 with
 |none=>rw[a] at h;simp at h
 |some d=>rfl
set_option linter.unusedVariables false
deriving instance DecidableEq for aI
theorem LY{n:ak}{l:aq}{i b:Nat}{aT:Bool}{B:aZ}:∀{d:List aZ}{k:Nat}{e:aI},∀x∈il n l i b aT B d k e,x.place.cP=1/\x.aY=l.aY/\x.place.run=i/\x.bD=l.bD
 |[],_,_,x,a=>by cases a
 |c::d,k,e,x,a=>by
  rcases dv.1 a with a|a
  . split at a
    . rw[dV.1 a];exact⟨rfl,rfl,rfl,rfl⟩
    . cases a
  . exact LY x a
def ro{n:ak}{l:aq}{i b:Nat}{aT:Bool}{c:aI}:∀x∈fR n l i b aT c,x.place.cP=1/\x.aY=l.aY/\x.place.run=i/\x.bD=l.bD:=by
 intro x a;unfold fR at a;split at a
 . split at a
   . exact LY x a
   . cases a
 . cases a
theorem L4{n:ak}{l f:aq}{i b:Nat}{aT g:Bool}{B e:aZ}:∀(a:List aZ)(k:Nat)(d:aI),(il n l i b aT B a k d).map (·.place)=(il n f i b g e a k d).map (·.place)
 |[],_,_=>rfl
 |c::a,k,d=>by show List.map _ (_++_)=List.map _ (_++_);rw[iL,iL,L4 a];split<;>rfl
theorem LU{n:ak}(l c:aq){i b:Nat}{aT d:Bool}{a:aI}:(fR n l i b aT a).map (·.place)=(fR n c i b d a).map (·.place):=by
 unfold fR;split
 . split
   . exact L4 _ _ _
   . rfl
 . rfl
def ac1{n:ak}{l a:aq}(c:l.place=a.place)(d:l.aM=a.aM):(iK n l).map (·.place)=(iK n a).map (·.place):=by
 have:∀b:List b1,(kD n l b).map (·.place)=(kD n a b).map (·.place):=λb=>by
  induction b with
  |nil=>rfl
  |cons x b f=>
   show List.map _ (_++_)=List.map _ (_++_);rw[iL,iL,f];have e:ik n l x=ik n a x:=by unfold ik sj;rw[c,d]
   unfold mE;rw[e,c];split
   . rw[LU l a]
   . rfl
 exact this _
def x7{n:ak}{l:aq}:∀x∈iK n l,x.place.cP=1/\x.aY=l.aY/\x.bD=l.bD/\∃p∈n.bj,p.aT=U/\p.src=l.place.run/\p.dst.toNat=x.place.run:=by
 have:∀b:List b1,(∀p∈b,p∈n.bj)->∀x∈kD n l b,x.place.cP=1/\x.aY=l.aY/\x.bD=l.bD/\∃p∈n.bj,p.aT=U/\p.src=l.place.run/\p.dst.toNat=x.place.run:=λb=>by
  induction b with
  |nil=>intro _ x a;cases a
  |cons p b i=>
   intro c x a;rcases dv.1 a with a|a
   . unfold mE at a;split at a
     . rename_i ae;simp only[ik,bL,cZ] at ae;obtain⟨d,e,f,g⟩:=ro x a;exact⟨d,e,g,p,c p (ft ..),ae.1,ae.2.1,f.symm⟩
     . cases a
   . exact i (λq al=>c q (fs _ al)) x a
 exact this _ λ_ h=>h
def rm(n:ak):Nat->aq->List h5
 |0,l=>[l.place]
 |f+1,l=>l.place::(iK n l).flatMap (rm n f)
theorem ac3(n:ak):∀(f:Nat)(l:aq),l.place∈rm n f l
 |0,l=>dV.2 rfl
 |f+1,l=>ft ..
theorem vf{α β:Type}(f:α->List β):∀l:List α,(l.flatMap f).length=c5 (λx=>(f x).length) l
 |[]=>rfl
 |x::l=>by rw[List.flatMap_cons,b0,vf f l];rfl
theorem BP{α:Type}{f g:α->Nat}{c:Nat}:∀{l:List α},(∀x∈l,c*f x<=g x)->c*c5 f l<=c5 g l
 |[],_=>bk _
 |x::l,h=>by have:=BP (l:=l) λy a=>h y (fs _ a);have:=h x (ft ..);simp only[c5,Nat.mul_add];omega
section
variable{n:ak}{q:aG}{d:Int->Nat}
theorem Lk(E:Env n q d):∀(f:Nat)(l:aq),gN n q d l->l.place.cP=1->(1+kN (ic q l))*(rm n f l).length<=mJ n q d l
 |0,l,_,a=>by unfold mJ;rw[aF a];exact Nat.mul_le_mul_left _ (by show 1<=_;omega)
 |f+1,l,h,a=>by
  have g:=ac2 E h a;have i:(1+kN (ic q l))*c5 (λx=>(rm n f x).length) (iK n l)<=c5 (mJ n q d) (iK n l):=BP λx b=>by obtain⟨c,e,_⟩:=x7 x b;have:=Lk E f x (x8 E h a (λ_ h=>h) x b) c;rwa [show ic q x=ic q l by unfold ic;rw[e]] at this
  unfold mJ;rw[aF a];show _*(List.length (_::_))<=_;rw[cc,vf,Nat.mul_add,Nat.mul_add];omega
def wK(n:ak)(q:aG)(i k:Nat):List h5:=match n.ar[i]? with
 |some r=>match r.aO[k]? with
  |some c=>if !r.ds&&c.cM then(fw n q (f0 q) i k).flatMap (rm n 7) else[]
  |none=>[]
 |none=>[]
def Q2(E:Env n q d)(i k:Nat):(wK n q i k).length<=35:=by
 unfold wK;split
 . rename_i r g;split
   . rename_i c e;split
     . rename_i b;simp only[bL,hM] at b;have v:=y_ E ((BI E).on (show(0:Int)≠1 by omega)) g e b.1 b.2;have s:=E.aY.1;have h:=Q1 (d:=d) E (l:=f0 q) s g e;rw[vf];by_cases al:q.aY=0
       . have:fw n q (f0 q) i k=[]:=by unfold fw;rw[aF (by rw[al];rfl)]
         rw[this];exact c_ _
       . obtain⟨m,f⟩:∃m,ic q (f0 q)=m+1:=⟨(q.aY -1).toNat,by show(q.aY -0).toNat=_;omega⟩;have t:(1+kN m)*c5 (λx=>(rm n 7 x).length) (fw n q (f0 q) i k)<=c5 (mJ n q d) (fw n q (f0 q) i k):=BP λx j=>by
          have a:=j;unfold fw at a;rw[ax (by show¬(0:Int)=q.aY;omega)] at a;simp only[gR,g,e] at a;obtain⟨o,p,_⟩:=ro x a;have:=Lk E 7 x (v x j) o;rwa [show ic q x=m by unfold ic at f⊢;rw[p,vc];show(q.aY -(0+1)).toNat=m;have:(q.aY -0).toNat=m+1:=f;omega] at this
         rw[f] at h;have u:(1+kN m)*c5 (λx=>(rm n 7 x).length) (fw n q (f0 q) i k)<=(1+kN m)*35:=by rw[Nat.mul_comm _ 35];exact fJ t h
         exact Nat.le_of_mul_le_mul_left u J
     . exact c_ _
   . exact c_ _
 . exact c_ _
def rV(n:ak)(q:aG):List h5:=(b8 7).flatMap λi=>(b8 6).flatMap λk=>wK n q i k
theorem BN{α:Type}{f:α->Nat}{c:Nat}:∀{l:List α},(∀x∈l,f x<=c)->c5 f l<=c*l.length
 |[],_=>c_ _
 |x::l,h=>by have:=BN (l:=l) λy a=>h y (fs _ a);have:=h x (ft ..);simp only[c5,cc,Nat.mul_add];omega
def P8(E:Env n q d):(rV n q).length<=1470:=by unfold rV;rw[vf];refine fJ (BN (c:=210) λi _=>?_) (by rw[List.length_range];decide);rw[vf];refine fJ (BN (c:=35) λk _=>Q2 E i k) (by rw[List.length_range];decide)
def td(n:ak)(q:aG)(d:Int->Nat)(l:aq):Prop:=l.place.cP=1->∃(f:Nat)(y:aq),gN n q d y/\y.place=l.place/\(∀p∈rm n f y,p∈rV n q)/\d l.place.run<=f
def td.mem{l:aq}(h:td n q d l)(c:l.place.cP=1):l.place∈rV n q:=by obtain⟨f,y,_,a,b,_⟩:=h c;exact a▸b _ (ac3 n f y)
def SU(E:Env n q d){l:aq}{i k:Nat}{r:aV}{c:aZ}(u:0<=l.aY/\l.aY<=q.aY)(a:n.ar[i]? =I r)(e:r.aO[k]? =I c)(g:r.ds=ad)(f:c.cM=U):∀x∈fw n q l i k,td n q d x:=by
 intro x b z;unfold fw at b;split at b
 . cases b
 rename_i B;simp only[gR,a,e] at b;have s:=(ro x b).2.2.1;have j:x.place∈(fR n (iD (f0 q) c.aR) i k ad ⟨c.aR,0,0,0⟩).map (·.place):=by rw[LU _ (iD l c.aR)];exact List.mem_map_of_mem b
 obtain⟨y,t,vq⟩:=gY.1 j;have h:y∈fw n q (f0 q) i k:=by unfold fw;rw[ax (by show¬(0:Int)=q.aY;omega)];simp only[gR,a,e];exact t
 have m:=(az.1 a).1;have A:=(az.1 e).1;have w:=E.ok.ar;have v:=E.ok.aO r (bI a);refine⟨7,y,y_ E ((BI E).on (show(0:Int)≠1 by omega)) a e g f y h,vq,λp o=>?_,?_⟩
 . refine List.mem_flatMap.2 ⟨i,hh.2 J,List.mem_flatMap.2 ⟨k,hh.2 J,?_⟩⟩;unfold wK;rw[a];simp only[e,g,f,Bool.not_false,cR,if_true];exact List.mem_flatMap.2 ⟨y,h,o⟩
 . rw[s];have:=E.d6 i m;omega
def gN.LI{a b:aq}(p:gN n q d a)(s:gN n q d b)(f:a.place=b.place)(g:a.place.cP=1):a.aM=b.aM:=by
 obtain⟨i,k,r,c,x,R⟩:=p.rd g;obtain⟨t,u,v,h,w,e⟩:=s.rd (f▸g);have j:i=t:=by have:=R.run;have:=e.run;rw[f] at*;omega
 have l:k=u:=by have:=R.cl;have:=e.cl;rw[f] at*;omega
 subst j l;have m:r=v:=by have:=R.cy;rw[e.cy] at this;exact(mN this).symm
 subst m;have o:c=h:=by have:=R.cV;rw[e.cV] at this;exact(mN this).symm
 subst o;rw[R.aM,e.aM]
theorem SV(E:Env n q d){l:aq}(h:gN n q d l)(o:td n q d l)(a:l.place.cP=1):∀x∈iK n l,td n q d x:=by
 intro x c _;obtain⟨f,y,e,vq,w,C⟩:=o a;have g:y.place.cP=1:=vq▸a;have m:x.place∈(iK n y).map (·.place):=by rw[ac1 vq (e.LI h vq g)];exact List.mem_map_of_mem c
 obtain⟨z,i,A⟩:=gY.1 m;obtain⟨_,_,_,p,b,ae,v,u⟩:=x7 x c;have r:=E.zJ p.src p.dst ⟨p,b,ae,rfl,rfl⟩;obtain⟨j,s⟩:=eb b;obtain⟨k,_⟩:=(E.ok.ok.bj.2 j p s).dst;rw[v,<-fr k,u] at r;cases f with
 |zero=>omega
 |succ f=>exact⟨f,z,x8 E e g (λ_ h=>h) z i,A,λB t=>w B (fs _ (List.mem_flatMap.2 ⟨z,i,t⟩)),J⟩
end
end Go.ao.C
