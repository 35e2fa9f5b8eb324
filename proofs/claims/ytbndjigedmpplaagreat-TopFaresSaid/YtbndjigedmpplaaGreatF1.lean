/- A part of the proof of TopFares: the abstract machine, the code that the statement reaches, the contracts of its functions. Part 1. The text is made short by a program. -/
import Derived.Test.YtbndjigedmpplaaGreatF0
set_option linter.unusedSimpArgs false
set_option linter.unusedVariables false
set_option linter.unusedSectionVars false
set_option maxHeartbeats 1000000
set_option maxRecDepth 10000
open Array renaming getD_eq_getD_getElem?->ih,getElem?_eq_some_iff->la
open Bool renaming and_eq_true->b_,and_self->eR,false_eq_true->i_,not_eq_true'->lH
open Int renaming toNat_natCast->lI
open List renaming append_nil->fU,drop_eq_getElem_cons->qx,drop_zero->l9,ext_getElem?->oF,getD->kK,getElem?_append_left->gh,getElem?_append_right->jX,getElem?_cons_zero->ja,getElem?_drop->kL,getElem?_eq_getElem->gd,getElem?_eq_none->lJ,getElem?_eq_some_iff->bn,getElem?_map->gY,getElem?_of_mem->ij,getElem?_set_ne->dx,getElem?_set_self->eC,getElem?_take_of_lt->hs,length_append->dT,length_cons->dz,length_map->eD,length_nil->gZ,length_set->eO,length_take->iw,map_cons->hQ,mem_append->g_,mem_cons->jm,mem_cons_of_mem->oG,mem_range->jY,range->c1,take_of_length_le->g1
open Nat renaming add_assoc->kM,add_mul->ik,add_zero->iJ,beq->ep,blt->il,eq_of_beq_eq_true->oI,le_refl->cF,le_trans->jH,lt_or_ge->mG,mul_le_mul_right->jo,mul_one->kN,not_lt_zero->fb,sub_self->mH,zero_add->ev,zero_le->fG
open Ne renaming symm->gi
open Option renaming map_eq_some_iff->dJ,map_some->mI
open Option.some renaming injEq->aV
open Prod.mk renaming injEq->dX
namespace Go.aQ
open Go.RowKit (Below)
section
variable{P:Program}{w:World}{Γ:Env}{M:Mem}{s:aH}{a:Act}{o:Oper}{v:V}
theorem Vm:∀(rs:List (List V))(rows:List (List V))(i:Nat),(oo rows i rs).length=rows.length
 |[],rows,i=>rfl
 |r::rs,rows,i=>by simp[oo,Vm rs]
theorem Vl:∀(rs:List (List V))(rows:List (List V))(i j:Nat),i+rs.length<=rows.length->(oo rows i rs)[j]? =if i<=j/\j<i+rs.length then rs[j -i]? else rows[j]?
 |[],rows,i,j,_=>by simp[oo];intro _ _;omega
 |r::rs,rows,i,j,h=>by
  simp only[dz] at h;rw[oo,Vl rs _ _ _ (by simp;omega)];by_cases U:i+1<=j/\j<i+1+rs.length
  . rw[if_pos U,if_pos (by simp only[dz];omega)]
    rw[show j -i=(j -(i+1))+1 by omega,List.getElem?_cons_succ]
  . rw[if_neg U]
    by_cases af:j=i
    . subst af
      rw[if_pos (by simp only[dz];omega),mH,ja,eC (by omega)]
    . rw[if_neg (by simp only[dz];omega),dx (by omega)]
def JT(n:Nat):V->V
 |.slice rows _=>.slice (rows.take n) .cv
 |.aX id ver start _=>.aX id ver start n
 |v=>v
theorem aMB{x:V}{p:Option Addr}{len cap:Nat}(ab:bp w Γ x (.slice p len cap)){sz:Nat}{xr:List (List V)}(h:eJ sz M x=some xr){n:Nat}(aK:n<=xr.length)(a4:0<n):
 bp w Γ (JT n x) (.slice p n cap)/\eJ sz M (JT n x)=some (xr.take n):=by
 unfold eJ at h;split at h
 . rename_i rs c
   obtain⟨ce,rfl⟩:=fe h;generalize d7:Value.slice p len cap=bg at ab;cases ab with
   |iE=>simp at aK;omega
   |lE=>simp at aK;omega
   |slice _ _ b of z azU bl ar aC fZ fP bh dL ax fS=>
    simp only[Value.slice.injEq] at d7;obtain⟨rfl,rfl,rfl⟩:=d7;have ag:(rs.take n).length=n:=by simp;omega
    have get:∀(i:Nat)(r:List V),(rs.take n)[i]? =some r->rs[i]? =some r:=fun i r al=>by
     have hi:i<n:=by have:=(bn.1 al).1;omega
     rwa [hs hi] at al
    have TX:=bp.slice (w:=w) (Γ:=Γ) (rs.take n) .cv b of z cap bl (by simp) (by simp) (by rw[ag];omega) (fun i r al=>fP i r (get i r al)) (fun i j hi ap=>bh i j (by omega) ap) (fun i j hi ap=>dL i j (by omega) ap) (fun i r j x al ab=>ax i r j x (get i r al) ab) (fun i r j x al ab=>fS i r j x (get i r al) ab);rw[ag] at TX;refine⟨TX,?_⟩;have:fq sz (rs.take n)=true:=by
     cases rs with
     |nil=>simp[fq]
     |cons r rs=>cases n with
      |zero=>omega
      |succ n=>exact ce
    simp[JT,eJ,this]
 . rename_i id ver start M8
   split at h
   . rename_i z rows hP fz bb
     cases aj:(z==sz&&hP==ver&&decide (start+M8<=rows.length)) with
     |false=>rw[aj] at h;simp at h
     |true=>
      rw[aj] at h;simp only[cond_true,aV] at h;subst h;simp only[b_,beq_iff_eq,decide_eq_true_eq] at aj;have hlen:((rows.drop start).take M8).length=M8:=by simp;omega
      rw[hlen] at aK;generalize d7:Value.slice p len cap=bg at ab;cases ab with
      |aX _ _ _ _ l ag jx _ eF ar=>
       subst d7;refine⟨.aX id ver start n l ag jx _ (fun e=>?_) rfl,?_⟩
       . rcases eF e with⟨aw,a7,aq⟩|⟨ed,fZ,of,h6,aq,iT,hk,gz⟩
         . omega
         . simp only[Value.slice.injEq] at aq
           obtain⟨rfl,rfl,rfl⟩:=aq;exact .inr ⟨ed,by omega,of,_,rfl,iT,by omega,gz⟩
       . have a6:(z==sz&&hP==ver&&decide (start+n<=rows.length))=true:=by simp[aj.1.1,aj.1.2];omega
         simp only[JT,eJ,bb,a6,cond_true,aV];rw[List.take_take,Nat.min_eq_left aK]
   . cases h
 . cases h
theorem aAu(aB:Good w Γ M)(ak:eh w Γ s a.tmps){d x:Operand}{hB df:aU}{t ad e:TypeId}{n:Nat}{ah:Mem}(az:o.op=.call ⟨.builtin .copy,#[d,x],#[t,ad]⟩) (hu:P.underlying t=some (.slice e)) (aK:e6 P e=some n) (aw:b2 d=some hB) (ab:b2 x=some df)
 (h:uQ n (aN s hB) (aN s df) M=some (v,ah)):h3 P w Γ a o v ah:=by
 have rd:=d4 ak aw;have rx:=d4 ak ab;unfold uQ at h;split at h
 . rename_i id ver start len xr bf ob
   rw[bf] at rd;split at h
   . rename_i z rows hP fz bb
     obtain⟨aj,h⟩:=qW h;simp only[aV,dX] at h;obtain⟨rfl,rfl⟩:=h;simp only[b_,beq_iff_eq,decide_eq_true_eq] at aj;obtain⟨⟨⟨a7,aq⟩,hle⟩,mS⟩:=aj;obtain⟨p,cap,aN4,d7,_,_⟩:=yg (P:=P) aB rx ob;have src:∃bI:List Value,md w Γ n (xr.take len) bI/\(Builtin.firstCells n (min xr.length len) (a.eval x)).run P w=.ok bI.toArray w:=by
      rcases Nat.eq_zero_or_pos (min xr.length len) with a4|a4
      . have gm:xr.take len=[]:=by
         apply List.eq_nil_of_length_eq_zero;rw[iw];omega
        refine⟨[],?_,?_⟩
        . rw[gm];exact⟨by simp,fun i r al=>by simp at al,fun i r j x al=>by simp at al⟩
        . rw[a4,d7]
          cases p with
          |none=>simp[Builtin.firstCells]
          |some p=>simp[Builtin.firstCells,loadCells,loadCellsFrom]
      . rw[d7] at rx
        obtain⟨i4,r2⟩:=aMB (n:=min xr.length len) rx ob (by omega) a4;obtain⟨p',azU,bI,a6,ba,e3⟩:=yg (P:=P) aB i4 r2;have lO:xr.take (min xr.length len)=xr.take len:=by
         rw[Nat.min_comm,<-List.take_take,g1 (cF xr.length)]
        rw[lO] at ba;refine⟨bI,ba,?_⟩;have mP:=e3 w rfl;have y4:(xr.take (min xr.length len)).length=min xr.length len:=by simp
        rw[y4] at mP;rw[d7];cases p with
        |none=>simpa[Builtin.firstCells] using mP
        |some p=>simpa[Builtin.firstCells] using mP
     obtain⟨bI,pX,co⟩:=src;have MF:=co;rw[Nat.min_comm] at MF;have Hs:(xr.take len).length=min xr.length len:=by rw[iw];omega
     have Mp:(Builtin.lenOf (a.eval x)).run P w=.ok xr.length w:=by rw[d7];simp[Builtin.lenOf]
     have sp:Nat.min xr.length len=min xr.length len:=rfl;generalize LZ:a.eval d=aN0 at rd;cases rd with
     |aX _ _ _ _ l ag jx _ eF _=>
      obtain⟨U,a4,af,ay,be,bv,b7,dQ,ch⟩:=aB.eG id l _ ag bb;rcases eF (by rw[af,aq]) with⟨zo,Mo,L0⟩|⟨ed,fZ,of,h6,L0,iT,hk,gz⟩
      . subst L0
        subst Mo;have gm:oo rows start (xr.take 0)=rows:=by simp[oo]
        rw[gm];have eV:M.set id (.arr z rows hP fz)=M:=by
         apply oF;intro i;by_cases hi:id=i
         . subst hi
           rw[eC (bn.1 bb).1,bb]
         . rw[dx hi]
        rw[eV];refine⟨.value (.int .i64 (min 0 xr.length:Nat)),w,Γ,?_,.inl ⟨_,rfl,.int _ _⟩,aB,Ext.refl _ _⟩;rw[Nat.min_zero] at co;simp[execOp,az,resolve,invoke,builtin,Builtin.copy_,ej hu,gV aK,LZ,Mp,co,goInt]
      . subst L0
        obtain⟨di,c,T,ch,eL,fp⟩:=ch ed;have Mu:0<min xr.length len->of=start*l.sz:=fun ax=>gz (by omega);have hU:bI.length=min xr.length len*l.sz:=by rw[pX.1,Hs,a4,a7]
        have nu:=pX.one;have lS:min xr.length len=0∨start*l.sz+bI.length<=c.size:=by
         rcases Nat.eq_zero_or_pos (min xr.length len) with q|q
         . exact .inl q
         . right
           rw[hU,eL,<-ik];exact jo _ (by omega)
        rcases Nat.eq_zero_or_pos (min xr.length len) with q|q
        . have gm:oo rows start (xr.take len)=rows:=by
           have:xr.take len=[]:=List.eq_nil_of_length_eq_zero (by omega);rw[this];rfl
          rw[gm];have eV:M.set id (.arr z rows hP fz)=M:=by
           apply oF;intro i;by_cases hi:id=i
           . subst hi
             rw[eC (bn.1 bb).1,bb]
           . rw[dx hi]
          rw[eV];have CK:bI=[]:=List.eq_nil_of_length_eq_zero (by rw[hU,q,Nat.zero_mul]);subst CK;refine⟨.value (.int .i64 (min len xr.length:Nat)),w,Γ,?_,.inl ⟨_,rfl,.int _ _⟩,aB,Ext.refl _ _⟩;simp[execOp,az,resolve,invoke,builtin,Builtin.copy_,ej hu,gV aK,LZ,Mp,MF,goInt,storeCells,Nat.min_comm]
        . have xt:=Mu q
          subst xt;have lS:start*l.sz+bI.length<=c.size:=lS.resolve_left (by omega);obtain⟨w',aW,a9,bN,c5,er,eT,iy⟩:=yo (P:=P) bI c (start*l.sz) 0 w ch (by omega) nu;rw[iJ] at a9;have aOn:fz*l.sz<=start*l.sz:=jo _ mS;have he:Ext w Γ w' Γ:=Ext.write aB ag bN c5 er eT iy (fun o' ee=>by
           refine NX ch a9 ?_;rw[km a9,km ch];have bw:o'<fz*l.sz:=(di o').1 ee;have vh:o'<c.size:=by omega
           rw[jK (by rw[sP];exact vh),jK vh,rJ _ _ _ _ lS,if_neg (by omega)]);have aHi:start+(xr.take len).length<=rows.length:=by omega
          have xu:=Vm (xr.take len) rows start;have zC:=fun j=>Vl (xr.take len) rows start j aHi;refine⟨.value (.int .i64 (min len xr.length:Nat)),w',Γ,?_,.inl ⟨_,rfl,.int _ _⟩,aB.write ag ed he bN ?_,he⟩
          . simp[execOp,az,resolve,invoke,builtin,Builtin.copy_,ej hu,gV aK,LZ,Mp,MF,goInt,aW,Nat.min_comm]
          . refine⟨U,a4,af,by rw[xu];exact ay,by rw[xu];exact be,bv,fun i gA hi=>?_,fun i gA j x hi ap=>?_,fun _=>⟨di,_,T,a9,by rw[sP];exact eL,fun i gA j x hi ap=>?_⟩⟩
            . rw[zC] at hi
              split at hi
              . rw[a4,a7];exact pX.2.1 _ _ hi
              . exact b7 i gA hi
            . rw[zC] at hi
              split at hi
              . exact(pX.2.2 _ _ _ _ hi ap).1
              . exact dQ _ _ _ _ hi ap
            . rw[zC] at hi
              rw[rJ _ _ _ _ lS];split at hi
              . rename_i ey
                have eo:j<l.sz:=by rw[a4,a7,<-pX.2.1 _ _ hi];exact(bn.1 ap).1
                have al:=(pX.2.2 _ _ _ _ hi ap).2.ext he;obtain⟨hM,xy⟩:∃hM,i=start+hM:=⟨i -start,by omega⟩;subst xy;have xz:hM<min xr.length len:=by omega
                have aGi:hM*l.sz+l.sz<=min xr.length len*l.sz:=by
                 rw[<-Nat.succ_mul];exact jo _ xz
                rw[ik,if_pos (by omega)];rw[Nat.add_sub_cancel_left] at al;rw[show start*l.sz+hM*l.sz+j -start*l.sz=hM*n+j by rw[a4,a7];omega];exact al
              . rename_i ey
                have eo:j<l.sz:=by rw[<-b7 i gA hi];exact(bn.1 ap).1
                have al:=(fp i gA j x hi ap).ext he;have:¬(start*l.sz<=i*l.sz+j/\i*l.sz+j<start*l.sz+bI.length):=by
                 rintro⟨dw,dn⟩;rw[hU] at dn;rcases mG i start with h|h
                 . have:i*l.sz+l.sz<=start*l.sz:=by rw[<-Nat.succ_mul];exact jo _ h
                   omega
                 . have gG:start+min xr.length len<=i:=by omega
                   have:start*l.sz+min xr.length len*l.sz<=i*l.sz:=by rw[<-ik];exact jo _ gG
                   omega
                rw[if_neg this];exact al
   . cases h
 . cases h
theorem Good.freeze{id z ver fz k:Nat}{rows:List (List V)}{l:Loc}(aB:Good w Γ M)(ag:Γ.cW[id]? =some l)(bb:M[id]? =some (.arr z rows ver fz))(ao:k<=rows.length)(ed:l.live=true):
 Good w {Γ with S:=fun b o=>Γ.S b o∨(b=l.b/\o<k*l.sz)} (M.set id (.arr z rows ver (max fz k)))/\Ext w Γ w {Γ with S:=fun b o=>Γ.S b o∨(b=l.b/\o<k*l.sz)}:=by
 have he:Ext w Γ w {Γ with S:=fun b o=>Γ.S b o∨(b=l.b/\o<k*l.sz)}:=
  ⟨fun b o ak=>⟨.inl ak,rfl⟩,fun i m hm=>⟨m,hm,cF _,fun _=>rfl,fun _=>rfl⟩,rfl,Below.refl _ _,fun b o aj ak=>by
    rcases ak with ak|⟨rfl,_⟩
    . exact ak
    . have:=aB.cq id l ag;omega⟩;refine⟨⟨by rw[eO];exact aB.len,fun i m B hm bY=>?_,aB.cq,aB.inj,fun b o ak=>?_,aB.base,aB.jE⟩,he⟩
 . have bw:id<M.length:=(bn.1 bb).1
   by_cases hi:id=i
   . subst hi
     rw[eC bw] at bY;simp only[aV] at bY;subst bY;have:m=l:=by rw[show Γ.cW[id]? =some m from hm] at ag;simpa using ag
     subst this;obtain⟨U,a4,af,ay,be,bv,b7,dQ,ch⟩:=aB.eG id m _ hm bb;obtain⟨di,c,T,ch,eL,fp⟩:=ch ed;refine⟨U,a4,af,by omega,be,bv,b7,dQ,fun _=>⟨fun o=>?_,c,T,ch,eL,fun i r j x al ab=>(fp i r j x al ab).ext he⟩⟩;constructor
     . rintro(ak|⟨_,ak⟩)
       . have:=(di o).1 ak
         have gG:fz*m.sz<=max fz k*m.sz:=jo _ (Nat.le_max_left _ _);omega
       . have gG:k*m.sz<=max fz k*m.sz:=jo _ (Nat.le_max_right _ _)
         omega
     . intro az
       rcases Nat.le_total fz k with h|h
       . rw[Nat.max_eq_right h] at az;exact .inr ⟨rfl,az⟩
       . rw[Nat.max_eq_left h] at az;exact .inl ((di o).2 az)
   . rw[dx hi] at bY
     refine(aB.eG i m B hm bY).fJ he (fun _=>rfl) (fun aq o az=>?_);rcases az with az|⟨aj,_⟩
     . exact az
     . exact absurd (aB.inj i id m l hm ag aq ed aj).symm hi
 . rcases ak with ak|⟨rfl,ak⟩
   . exact aB.jC b o ak
   . obtain⟨U,a4,af,ay,be,bv,b7,dQ,ch⟩:=aB.eG id l _ ag bb
     obtain⟨di,c,T,ch,eL,fp⟩:=ch ed;have:k*l.sz<=l.cap*l.sz:=jo _ (by omega);exact⟨c.getD o Go.undef,by rw[km ch];exact jK (by omega)⟩
theorem aLQ(aB:Good w Γ M)(ak:eh w Γ s a.tmps){t e:TypeId}{x h m:Operand}{df gG e5:aU}{n:Nat}{ah:Mem}(az:o.op=.slice t x none (some h) (some m))(hu:P.underlying t=some (.slice e))(aK:e6 P e=some n)(ab:b2 x=some df)(ce:b2 h=some gG)(hm:b2 m=some e5)
 (aq:yj n (aN s df) (aN s gG) (aN s e5) M=some (v,ah)):h3 P w Γ a o v ah:=by
 have rx:=d4 ak ab;unfold yj at aq;split at aq
 . rename_i id ver len bf
   rw[bf] at rx;split at aq
   . rename_i z rows hP fz k p dj q bb Mj gy
     obtain⟨aj,aq⟩:=qW aq;simp only[aV,dX] at aq;obtain⟨rfl,rfl⟩:=aq;simp only[b_,beq_iff_eq,decide_eq_true_eq] at aj;obtain⟨⟨⟨⟨⟨⟨a7,hF⟩,Hh⟩,ss⟩,pd⟩,lV⟩,pf⟩:=aj;subst pd;generalize d7:a.eval x=bg at rx;cases rx with
     |aX _ _ _ _ l ag jx _ eF _=>
      obtain⟨U,a4,af,ay,be,bv,b7,dQ,ch⟩:=aB.eG id l _ ag bb;have ed:l.live=true:=bp.EX aB ag bb (by rintro rfl;simp at pf);obtain⟨di,c,T,LA,eL,fp⟩:=ch ed;rcases eF (by rw[af,hF]) with⟨aw,_⟩|⟨_,fZ,of,h6,rfl,iT,hk,gz⟩
      . rw[ed] at aw;cases aw
      . obtain⟨aW,a9⟩:=Good.freeze (k:=p.toNat) aB ag bb (by omega) ed
        have co:(Instr.sliceBounds true len h6 (none:Option Value) (some (a.eval h)) (some (a.eval m))).run P w=.ok (0,p.toNat,p.toNat) w:=by
         have:=v1 (P:=P) (b:=true) (len:=len) (cap:=h6) (l:=0) (h:=p.toNat) (m:=p.toNat) ak (lo:=none) (lo':=none) (hi:=some h) (hi':=some gG) (mx:=some m) (mx':=some e5) rfl (by simp[hJ,ce]) (by simp[hJ,hm]) (.inr (by simp)) rfl (by simp[eH,Mj,ix,ss]) (by simp[eH,gy,ix,ss]) (fG _) (cF _) (by omega) w;simpa using this
        refine⟨.value (.slice (some ⟨l.b,of,none⟩) p.toNat p.toNat),w,_,?_,.inl ⟨_,rfl,?_⟩,aW,a9⟩
        . rcases Nat.eq_zero_or_pos p.toNat with hM|hM
          . rw[hM] at co⊢
            simp[execOp,az,Instr.sliceAt,Instr.slice,ej hu,d7,co,gV aK]
          . have dw:p.toNat≠0:=by omega
            simp[execOp,az,Instr.sliceAt,Instr.slice,ej hu,d7,co,gV aK,Addr.add,dw]
        . rcases Nat.eq_zero_or_pos p.toNat with hM|hM
          . rw[hM,List.take_zero]
            exact .lE _ (by simp) _
          . have xt:=gz (by omega)
            rw[Nat.zero_mul] at xt;subst xt;have fa:(rows.take p.toNat).length=p.toNat:=by rw[iw];omega
            have get:∀(i:Nat)(r:List V),(rows.take p.toNat)[i]? =some r->rows[i]? =some r:=fun i r al=>by
             have hi:i<p.toNat:=by have:=(bn.1 al).1;omega
             rwa [hs hi] at al
            have dL:∀i j,i<p.toNat->j<l.sz->i*l.sz+j<p.toNat*l.sz/\i*l.sz+j<c.size:=fun i j hi ap=>by
             have a6:i*l.sz+l.sz<=p.toNat*l.sz:=by rw[<-Nat.succ_mul];exact jo _ hi
             have ba:p.toNat*l.sz<=l.cap*l.sz:=jo _ (by omega);omega
            have:=bp.slice (w:=w) (Γ:={Γ with S:=fun b o=>Γ.S b o∨(b=l.b/\o<p.toNat*l.sz)}) (rows.take p.toNat) .full l.b 0 l.sz p.toNat (fun i j=>c.getD (i*l.sz+j) Go.undef) (by simp) (fun _=>fa.symm) (by omega)
             (fun i r al=>b7 i r (get i r al))
             (fun i j hi ap=>.inr ⟨rfl,by rw[ev];exact(dL i j (by omega) ap).1⟩)
             (fun i j hi ap=>by rw[ev,km LA];exact jK (dL i j (by omega) ap).2)
             (fun i r j x al ab=>dQ i r j x (get i r al) ab)
             (fun i r j x al ab=>(fp i r j x (get i r al) ab).ext a9);rw[fa] at this;exact this
   . cases aq
 . rename_i rows c bf
   simp only[dJ,dX] at aq;obtain⟨y,aq,rfl,rfl⟩:=aq;refine(Wj (P:=P) (a:=a) (o:=o) aB ak (lo:=none) (hi:=some h) (mx:=some m) (lo':=none) (hi':=some gG) (mx':=some e5) az hu aK ab rfl (by simp[hJ,ce]) (by simp[hJ,hm]) (.inr (by simp)) ?_).U5 aB;rw[bf];exact aq
 . cases aq
theorem U6(aB:Good w Γ M){x:V}{bl:Value}(rx:bp w Γ x bl)(co:(execOp a.eval o).run P w=.ok (.value bl) w){ah:Mem}(aq:oj x M=some (v,ah)):h3 P w Γ a o v ah:=by
 unfold oj at aq;split at aq
 . rename_i id ver len
   split at aq
   . rename_i z rows hP fz bb
     obtain⟨aj,aq⟩:=qW aq;simp only[b_,beq_iff_eq,decide_eq_true_eq] at aj;obtain⟨hF,Hh⟩:=aj;rcases Nat.eq_zero_or_pos len with iX|pf
     . subst iX
       simp only[Nat.lt_irrefl,decide_false,cond_false,aV,dX] at aq;obtain⟨rfl,rfl⟩:=aq;cases rx with
       |aX _ _ _ _ l ag jx _ eF _=>
        obtain⟨U,a4,af,ay,be,bv,b7,dQ,ch⟩:=aB.eG id l _ ag bb;refine⟨.value _,w,Γ,co,.inl ⟨_,rfl,?_⟩,aB,Ext.refl _ _⟩;rcases eF (by rw[af,hF]) with⟨_,_,rfl⟩|⟨_,_,of,h6,rfl,_,_,_⟩
        . exact .iE _ (.inr rfl)
        . exact bp.slice [] .cv l.b of 0 h6 (fun _ _=>Go.undef) (by simp) (fun h=>by cases h) (by simp) (fun i r al=>by simp at al) (fun i j hi=>by simp at hi) (fun i j hi=>by simp at hi) (fun i r j x al=>by simp at al) (fun i r j x al=>by simp at al)
     simp only[decide_eq_true pf,cond_true,aV,dX] at aq;obtain⟨rfl,rfl⟩:=aq;cases rx with
     |aX _ _ _ _ l ag jx _ eF _=>
      obtain⟨U,a4,af,ay,be,bv,b7,dQ,ch⟩:=aB.eG id l _ ag bb;have ed:l.live=true:=bp.EX aB ag bb (by rintro rfl;simp at Hh;omega);obtain⟨di,c,T,LA,eL,fp⟩:=ch ed;rcases eF (by rw[af,hF]) with⟨aw,_⟩|⟨_,fZ,of,h6,rfl,iT,hk,gz⟩
      . rw[ed] at aw;cases aw
      . obtain⟨aW,a9⟩:=Good.freeze (k:=len) aB ag bb Hh ed
        refine⟨.value (.slice (some ⟨l.b,of,none⟩) len h6),w,_,co,.inl ⟨_,rfl,?_⟩,aW,a9⟩;have hM:0<len:=pf;have xt:=gz (by omega);rw[Nat.zero_mul] at xt;subst xt;have fa:(rows.take len).length=len:=by rw[iw];omega
        have get:∀(i:Nat)(r:List V),(rows.take len)[i]? =some r->rows[i]? =some r:=fun i r al=>by
         have hi:i<len:=by have:=(bn.1 al).1;omega
         rwa [hs hi] at al
        have dL:∀i j,i<len->j<l.sz->i*l.sz+j<len*l.sz/\i*l.sz+j<c.size:=fun i j hi ap=>by
         have a6:i*l.sz+l.sz<=len*l.sz:=by rw[<-Nat.succ_mul];exact jo _ hi
         have ba:len*l.sz<=l.cap*l.sz:=jo _ (by omega);omega
        have:=bp.slice (w:=w) (Γ:={Γ with S:=fun b o=>Γ.S b o∨(b=l.b/\o<len*l.sz)}) (rows.take len) .cv l.b 0 l.sz h6 (fun i j=>c.getD (i*l.sz+j) Go.undef) (by simp) (fun h=>by cases h) (by omega)
         (fun i r al=>b7 i r (get i r al))
         (fun i j hi ap=>.inr ⟨rfl,by rw[ev];exact(dL i j (by omega) ap).1⟩)
         (fun i j hi ap=>by rw[ev,km LA];exact jK (dL i j (by omega) ap).2)
         (fun i r j x al ab=>dQ i r j x (get i r al) ab)
         (fun i r j x al ab=>(fp i r j x (get i r al) ab).ext a9);rw[fa] at this;exact this
   . cases aq
 . simp only[aV,dX] at aq
   obtain⟨rfl,rfl⟩:=aq;exact⟨_,w,Γ,co,.inl ⟨_,rfl,rx⟩,aB,Ext.refl w Γ⟩
theorem U7(aB:Good w Γ M)(ak:eh w Γ s a.tmps){x:Operand}{y:aU}{ah:Mem}(az:o.op=.move x∨o.op=.assign x)(aD:b2 x=some y)(aq:oj (aN s y) M=some (v,ah)):h3 P w Γ a o v ah:=by
 obtain⟨bl,rx,co⟩:=Nn (P:=P) ak az aD;exact U6 aB rx (co w (Below.refl _ _)) aq
theorem aIv(aB:Good w Γ M)(ak:eh w Γ s a.tmps){t:TypeId}{x:Operand}{y:aU}{ah:Mem}(az:o.op=.load t x)(aK:e6 P t=some 1)(bk:j4 P t=some false)(aD:b2 x=some y)
 (aq:z8 (aN s y) M=some (v,ah)):h3 P w Γ a o v ah:=by
 unfold z8 at aq;split at aq
 . rename_i ae tJ
   obtain⟨bl,rx,co⟩:=UG (P:=P) aB ak az aK bk aD tJ;exact U6 aB rx (co w (Below.refl _ _)) aq
 . cases aq
end
end Go.aQ
namespace Go.aQ
open Go.RowKit (Below)
section
variable{P:Program}{w:World}{Γ:Env}{M:Mem}{s:aH}{a:Act}{o:Oper}{v:V}
theorem hz{α β Ex:Type}{x:Option α}{y:Option β}{f:α->β->Ex}{z:Ex}(h:qO x y f=some z):∃p q,x=some p/\y=some q/\z=f p q:=by
 unfold qO at h;split at h
 . simp only[aV] at h;exact⟨_,_,rfl,rfl,h.symm⟩
 . cases h
def AI(P:Program)(w:World)(Γ:Env)(M:Mem)(s:aH)(a:Act)(o:Oper)(cg:dK):Prop:=
 (cg.hl=true->∀v ah,m3 cg s M=some (v,ah)->h3 P w Γ a o v ah)/\
 (cg.hl=false->∀v,hL cg s M=some v->h3 P w Γ a o v M/\(cg.aKq=true->hv P w Γ a o v))
theorem h4(aB:Good w Γ M){cg:dK}(hm:cg.hl=false)(h:∀v,hL cg s M=some v->hv P w Γ a o v):AI P w Γ M s a o cg:=
 ⟨(fun e=>by rw[hm] at e;cases e),fun _ v aq=>⟨(h v aq).U5 aB,fun _=>h v aq⟩⟩
theorem jr{cg:dK}(hm:cg.hl=true)(h:∀v ah,m3 cg s M=some (v,ah)->h3 P w Γ a o v ah):AI P w Γ M s a o cg:=
 ⟨(fun _=>h),(fun e=>by rw[hm] at e;cases e)⟩
theorem Vu(aB:Good w Γ M)(ak:eh w Γ s a.tmps){op:BinOp}{t gD:TypeId}{x y:Operand}{df g8:aU}{neg:Bool}(az:o.op=.binOp op t x y gD)(ab:b2 x=some df)(aD:b2 y=some g8)
 (aT:Ap P t=true)(g5:op=.eql/\neg=false∨op=.neq/\neg=true){ah:Mem}(h:yb neg (aN s df) (aN s g8) M=some (v,ah)):h3 P w Γ a o v ah:=by
 have rx:=d4 ak ab;have hN:=d4 ak aD;unfold Ap at aT;split at aT
 . rename_i e hu
   split at aT
   . rename_i n aK
     have p3:n≠0:=by simpa using Nat.pos_iff_ne_zero.1 (of_decide_eq_true aT)
     unfold yb at h;split at h
     . rename_i i uf j ug L9 L_
       rw[L9] at rx;rw[L_] at hN;split at h
       . rename_i eS gQ U af
         simp only[aV,dX] at h;obtain⟨rfl,rfl⟩:=h;generalize d7:a.eval x=bg at rx;generalize L3:a.eval y=dd at hN;cases rx with
         |ptr _ _ l ag aj aq=>
          cases hN with
          |ptr _ _ l' ei mh pl=>
           obtain⟨_,_,_,d1,aaa,bH,_⟩:=aB.eG i l _ ag U;obtain⟨_,_,_,d2,aab,b8,_⟩:=aB.eG j l' _ ei af;have ny:(sameAddr ⟨l.b,uf,none⟩ ⟨l'.b,ug,none⟩).run P w=.ok (decide (i=j)&&decide (uf=ug)) w:=by
            by_cases mT:i=j
            . subst mT
              rw[ag] at ei;simp only[aV] at ei;subst ei;by_cases g5:uf=ug
              . subst g5;simp[run_sameAddr_same]
              . rw[run_sameAddr_other w (by simpa using g5) bH b8];simp[g5]
            . have cr:l.b≠l'.b:=fun e=>mT (aB.inj i j l l' ag ei aq pl e)
              rw[run_sameAddr_other w (by intro e;exact cr (congrArg Addr.block e)) bH b8];simp[mT]
           have co:(Op.equalIn (9999+1) t (.pointer (some ⟨l.b,uf,none⟩)) (.pointer (some ⟨l'.b,ug,none⟩))).run P w=.ok (decide (i=j)&&decide (uf=ug)) w:=by
            rw[Op.equalIn];simp[ej hu,gV aK,p3,ny]
           have fD:∀(p q:Operand),(eqGuard op t p q (.pointer (some ⟨l.b,uf,none⟩)) (.pointer (some ⟨l'.b,ug,none⟩))).run P w=.ok () w:=fun p q=>tu op t p q _ _ (by simp) (by simp) w;refine⟨.value (.bool ((decide (i=j)&&decide (uf=ug)) !=neg)),w,Γ,?_,.inl ⟨_,rfl,.bool _⟩,aB,Ext.refl _ _⟩;have LU:(binOp op t (.pointer (some ⟨l.b,uf,none⟩)) (.pointer (some ⟨l'.b,ug,none⟩))).run P w=.ok (.bool ((decide (i=j)&&decide (uf=ug)) !=neg)) w:=by
            rcases g5 with⟨rfl,rfl⟩|⟨rfl,rfl⟩
            . show(do pure (.bool (<-Op.equal t _ _)):Sem Value).run P w=_
              simp[wS,co]
            . show(do pure (.bool (!(<-Op.equal t _ _))):Sem Value).run P w=_
              simp[wS,co]
           simp only[execOp,az,Sem.run_bind,d7,L3,fD,Result.andThen_ok,LU];simp
       . cases h
     . cases h
   . cases aT
 . cases aT
theorem ET{cg:dK}(ar:cg.jz=true):AI P w Γ M s a o cg:=by
 cases cg<;>simp[dK.jz] at ar
 . exact⟨(fun e=>by cases e),(fun _ v aq=>by simp[hL] at aq)⟩
 . exact⟨(fun e=>by cases e),(fun _ v aq=>by simp[hL] at aq)⟩
theorem abJ(aB:Good w Γ M)(ak:eh w Γ s a.tmps){mu:Bool}{b:Builtin}{args:Array Operand}{iG:Array TypeId}{cg:dK}(az:o.op=.call ⟨.builtin b,args,iG⟩)(h:vX P b args.toList iG.toList mu=some cg):AI P w Γ M s a o cg:=by
 have mg:∀l:List Operand,args.toList=l->args=l.toArray:=fun l ag=>by rw[<-ag]
 have oU:∀l:List TypeId,iG.toList=l->iG=l.toArray:=fun l ag=>by rw[<-ag]
 unfold vX at h;split at h
 . rename_i x t ab aT
   have ab:=mg _ ab;have aT:=oU _ aT;subst ab aT;split at h
   . rename_i hu
     simp only[dJ] at h;obtain⟨y,aD,rfl⟩:=h;exact h4 aB rfl fun v aq=>aId ak az hu aD aq
   . rename_i e hu
     simp only[dJ] at h;obtain⟨y,aD,rfl⟩:=h;exact h4 aB rfl fun v aq=>aIb aB ak az hu aD aq
   . rename_i kt oU hu
     simp only[dJ] at h;obtain⟨y,aD,rfl⟩:=h;exact jr rfl fun v ah aq=>aIa aB ak az hu aD aq
   . rename_i n e hu
     simp only[aV] at h;subst h;exact h4 aB rfl fun v aq=>by
      simp only[hL,aV] at aq;subst aq;exact Ux az (.inl hu)
   . rename_i gD hu
     split at h
     . rename_i n e n_
       simp only[aV] at h;subst h;exact h4 aB rfl fun v aq=>by
        simp only[hL,aV] at aq;subst aq;exact Ux az (.inr ⟨gD,hu,n_⟩)
     . cases h
   . cases h
 . rename_i x y t ad ab aT
   have ab:=mg _ ab;have aT:=oU _ aT;subst ab aT;split at h
   . rename_i e fm hu kv
     split at h
     . rename_i i df g8 hi ab aD
       split at h
       . rename_i ar
         simp only[aV] at h;subst h;simp only[b_,decide_eq_true_eq] at ar;exact jr rfl fun v ah aq=>aaY aB ak az hu kv hi ar.1 ar.2 ab aD aq
       . cases h
     . cases h
   . cases h
 . rename_i x y t ad ab aT
   have ab:=mg _ ab;have aT:=oU _ aT;subst ab aT;split at h
   . rename_i e fm hu kv
     split at h
     . rename_i n df g8 aK ab aD
       split at h
       . simp only[aV] at h
         subst h;exact jr rfl fun v ah aq=>aAu aB ak az hu aK ab aD aq
       . cases h
     . cases h
   . cases h
 . rename_i x y ab
   have ab:=mg _ ab;subst ab;obtain⟨p,q,ax,aG,rfl⟩:=hz h;exact h4 aB rfl fun v aq=>U1 (mx:=true) ak az ax aG aq
 . rename_i x y ab
   have ab:=mg _ ab;subst ab;obtain⟨p,q,ax,aG,rfl⟩:=hz h;exact h4 aB rfl fun v aq=>U1 (mx:=false) ak az ax aG aq
 . cases h
theorem aaW(aB:Good w Γ M)(ak:eh w Γ s a.tmps){mu k3:Bool}{cg:dK}(h:gK P mu k3 o.type o.op=some cg):AI P w Γ M s a o cg:=by
 generalize az:o.op=op at h;cases op<;>simp only[gK,reduceCtorEq] at h
 case move x=>
  split at h
  . simp only[dJ] at h
    obtain⟨y,aD,rfl⟩:=h;exact h4 aB rfl fun v aq=>by
     simp only[hL,aV] at aq;subst aq;exact Nn ak (.inl az) aD
  . simp only[dJ] at h
    obtain⟨y,aD,rfl⟩:=h;exact jr rfl fun v ah aq=>U7 aB ak (.inl az) aD aq
 case assign x=>
  split at h
  . split at h
    . rename_i aK
      split at h
      . simp only[aV] at h
        subst h;exact jr rfl fun v ah aq=>Va aB az aK (by simpa only[m3] using aq)
      . simp only[dJ] at h
        obtain⟨n,_,rfl⟩:=h;exact jr rfl fun v ah aq=>Va aB az aK (by simpa only[m3] using aq)
    . simp only[dJ] at h
      obtain⟨y,aD,rfl⟩:=h;exact jr rfl fun v ah aq=>U7 aB ak (.inr az) aD aq
  . simp only[dJ] at h
    obtain⟨y,aD,rfl⟩:=h;exact h4 aB rfl fun v aq=>by
     simp only[hL,aV] at aq;subst aq;exact Nn ak (.inr az) aD
 case pick c x y=>
  split at h
  . rename_i c0 df g8 ar ab aD
    simp only[aV] at h;subst h;exact h4 aB rfl fun v aq=>aJ8 ak az ar ab aD aq
  . cases h
 case alloc e=>
  simp only[dJ] at h;obtain⟨z,a7,rfl⟩:=h;exact jr rfl fun v ah aq=>by
   simp only[m3,ER,aV,dX] at aq;obtain⟨rfl,rfl⟩:=aq;exact aaT aB az a7
 case box e x=>
  obtain⟨n,y,aK,aD,rfl⟩:=hz h;exact jr rfl fun v ah aq=>abE aB ak az aD aq
 case build t d3=>
  split at h
  . rename_i bO z hu a7
    split at h
    . rename_i d9
      simp only[dJ] at h;obtain⟨cP,e2,rfl⟩:=h;exact h4 aB rfl fun v aq=>P3 ak az a7 (.inl ⟨bO,hu,d9,e2⟩) aq
    . cases h
  . rename_i k e z hu a7
    split at h
    . rename_i n aK
      simp only[dJ] at h;obtain⟨cP,e2,rfl⟩:=h;exact h4 aB rfl fun v aq=>P3 ak az a7 (.inr ⟨k,e,n,hu,aK,e2⟩) aq
    . cases h
  . cases h
 case buildSlice t len d3=>
  split at h
  . rename_i e hu
    split at h
    . rename_i n z aK a7
      split at h
      . rename_i ar
        simp only[b_,beq_iff_eq,decide_eq_true_eq] at ar;split at h;rotate_left
        . split at h
          . rename_i xq
            simp only[dJ] at h;obtain⟨cP,e2,rfl⟩:=h;exact jr rfl fun v ah aq=>abH aB ak az hu aK a7 ar.1.1 (by simpa using xq) ar.2 e2 aq
          . cases h
        simp only[dJ] at h;obtain⟨cP,e2,rfl⟩:=h;refine⟨(fun e=>by cases e),fun _ v aq=>⟨abG aB ak az hu aK a7 ar.1.1 ar.1.2 ar.2 e2 aq,fun aG=>by cases aG⟩⟩
      . cases h
    . cases h
  . cases h
 case load t x=>
  split at h
  . rename_i n bX y aK bk aD
    split at h
    . simp only[aV] at h
      subst h;exact h4 aB rfl fun v aq=>UG aB ak az aK bk aD aq
    . split at h
      . rename_i ao
        simp only[aV] at h;subst h;simp only[b_,beq_iff_eq,lH] at ao;obtain⟨rfl,rfl⟩:=ao;exact jr rfl fun v ah aq=>aIv aB ak az aK bk aD aq
      . cases h
  . cases h
 case store t x y=>
  split at h
  . rename_i n df g8 aK ab aD
    simp only[aV] at h;subst h;exact jr rfl fun v ah aq=>by
     simp only[m3,JH] at aq;split at aq
     . rename_i yN LH
       simp only[aV,dX] at aq;obtain⟨rfl,rfl⟩:=aq;exact aMc aB ak az aK ab aD LH
     . cases aq
  . cases h
 case nilCheck x=>
  simp only[dJ] at h;obtain⟨y,aD,rfl⟩:=h;exact h4 aB rfl fun v aq=>aJF ak az aD aq
 case binOp op t x y gD=>
  split at h
  . rename_i aj
    simp only[b_] at aj;obtain⟨p,q,ax,aG,rfl⟩:=hz h;exact jr rfl fun v ah aq=>Vu aB ak az ax aG aj.2 (.inl ⟨rfl,rfl⟩) aq
  . rename_i aj
    simp only[b_] at aj;obtain⟨p,q,ax,aG,rfl⟩:=hz h;exact jr rfl fun v ah aq=>Vu aB ak az ax aG aj.2 (.inr ⟨rfl,rfl⟩) aq
  . obtain⟨p,q,ax,aG,rfl⟩:=hz h
    exact h4 aB rfl fun v aq=>abo ak az ax aG aq
 case unOp op t x=>
  simp only[dJ] at h;obtain⟨y,aD,rfl⟩:=h;exact h4 aB rfl fun v aq=>aMJ ak az aD aq
 case convert src dst x=>
  split at h
  . rename_i dj k y hu aw aD
    simp only[aV] at h;subst h;exact h4 aB rfl fun v aq=>aAt ak az hu aw aD aq
  . rename_i y hu aw aD
    simp only[aV] at h;subst h;exact h4 aB rfl fun v aq=>aAs ak az hu aw aD aq
  . rename_i e y hu aw aD
    split at h
    . rename_i he
      simp only[aV] at h;subst h;exact h4 aB rfl fun v aq=>abM aB ak az hu he aw aD aq
    . cases h
  . cases h
 case makeFunc fn first da=>
  cases fn<;>simp only[reduceCtorEq] at h;split at h
  . rename_i aC
    simp only[dJ] at h;obtain⟨bG,aD,rfl⟩:=h;exact h4 aB rfl fun v aq=>by
     simp only[hL,aV] at aq;subst aq;exact aJj ak az aC aD
  . cases h
 case makeMap t r=>
  split at h
  . rename_i kt oU hu
    simp only[dJ] at h;obtain⟨gA,al,rfl⟩:=h;exact jr rfl fun v ah aq=>aIX aB ak az hu al aq
  . cases h
 case lookup t m k ok=>
  split at h
  . rename_i kt e e5 dj hu hm ao
    split at h
    . rename_i z c a7 ar
      obtain⟨ag,rfl⟩:=fe h;exact h4 aB rfl fun v aq=>aIH aB ak az hu hm ao ar a7 ag aq
    . cases h
  . cases h
 case mapUpdate t m k x=>
  split at h
  . rename_i kt e e5 dj df hu hm ao ab
    simp only[dJ] at h;obtain⟨c,ar,rfl⟩:=h;exact jr rfl fun v ah aq=>aI7 aB ak az hu hm ao ab ar aq
  . cases h
 case mapEntry t m k=>
  split at h
  . rename_i kt e e5 dj hu hm ao
    split at h
    . rename_i z c a7 ar
      obtain⟨ag,rfl⟩:=fe h;simp only[b_] at ag;exact jr rfl fun v ah aq=>aI2 aB ak az hu hm ao ar a7 ag.1 ag.2 aq
    . cases h
  . cases h
 case entryStore t m st x=>
  split at h
  . rename_i e5 N8 df hm bh ab
    simp only[aV] at h;subst h;exact jr rfl fun v ah aq=>aA_ aB ak az hm bh ab aq
  . cases h
 case makeSlice t l c=>
  split at h
  . rename_i e hu
    split at h
    . rename_i i z l' c0 hi a7 ag ar
      split at h
      . rename_i ao
        simp only[b_,beq_iff_eq,decide_eq_true_eq] at ao;split at h
        . simp only[aV] at h
          subst h;exact jr rfl fun v ah aq=>UJ aB ak az hu hi a7 ao.1.1 ao.1.2 ag ar aq
        . simp only[aV] at h
          subst h;exact jr rfl fun v ah aq=>aI1 aB ak az hu hi a7 ao.1.1 ao.1.2 ag ar aq
        . cases h
      . cases h
    . cases h
  . cases h
 case slice t x lo hi mx=>
  split at h
  . rename_i df lo' hi' hu ab h_ ex ji
    simp only[aV] at h;subst h;have hm:mx=none:=by
     cases mx with
     |none=>rfl
     |some q=>simp[hJ] at ji
    subst hm;exact h4 aB rfl fun v aq=>aLS ak az hu ab h_ ex aq
  . rename_i e df lo' hi' mx' hu ab h_ ex ji
    split at h
    . simp only[dJ] at h
      obtain⟨n,aK,rfl⟩:=h;have A_:lo=none:=by
       cases lo with
       |none=>rfl
       |some q=>simp[hJ] at h_
      subst A_;cases hi with
      |none=>simp[hJ] at ex
      |some hi=>
       cases mx with
       |none=>simp[hJ] at ji
       |some mx=>
        simp only[hJ,dJ,aV] at ex ji;obtain⟨_,ce,rfl⟩:=ex;obtain⟨_,hm,rfl⟩:=ji;exact jr rfl fun v ah aq=>aLQ aB ak az hu aK ab ce hm aq
    . cases h
    split at h
    . rename_i ar
      simp only[dJ] at h;obtain⟨n,aK,rfl⟩:=h;have o_:mx=none∨hi≠none:=by
       cases mx with
       |none=>exact .inl rfl
       |some q=>
        cases hi with
        |none=>simp at ar
        |some r=>exact .inr (by simp)
      exact h4 aB rfl fun v aq=>Wj aB ak az hu aK ab h_ ex ji o_ aq
    . cases h
  . cases h
 case range t x=>
  split at h
  . rename_i kt oU hu
    simp only[dJ] at h;obtain⟨y,aD,rfl⟩:=h;exact jr rfl fun v ah aq=>aKr aB ak az hu aD aq
  . cases h
 case next x b=>
  cases b<;>simp only[dJ,reduceCtorEq] at h;obtain⟨y,aD,rfl⟩:=h;exact jr rfl fun v ah aq=>by simp[m3] at aq
 case entry x=>
  simp only[dJ] at h;obtain⟨y,aD,rfl⟩:=h;exact jr rfl fun v ah aq=>aBc aB ak az aD aq
 case fieldAddr t x f=>
  split at h
  . rename_i bO y hu aD
    split at h
    . rename_i g aC
      split at h
      . rename_i n aK
        split at h
        . cases h
        . rename_i p3
          simp only[aV] at h;subst h;exact h4 aB rfl fun v aq=>aBL ak az hu aC aK p3 aD aq
      . cases h
    . cases h
  . cases h
 case field t x f=>
  split at h
  . rename_i bO y hu aD
    split at h
    . rename_i g aC
      split at h
      . rename_i n bX aK bk
        simp only[aV] at h;subst h;exact h4 aB rfl fun v aq=>aBN ak az hu aC aK bk aD aq
      . cases h
    . cases h
  . cases h
 case indexAddr t x i=>
  split at h
  . rename_i n e df eI hu ab hi
    simp only[dJ] at h;obtain⟨m,hm,rfl⟩:=h;exact h4 aB rfl fun v aq=>aHA ak az hu hm ab hi aq
  . rename_i e df eI hu ab hi
    simp only[dJ] at h;obtain⟨m,hm,rfl⟩:=h;exact h4 aB rfl fun v aq=>aHD aB ak az hu hm ab hi aq
  . cases h
 case index t x i=>
  split at h
  . rename_i df eI hu ab hi
    simp only[aV] at h;subst h;exact h4 aB rfl fun v aq=>aHH ak az hu ab hi aq
  . rename_i n e df eI hu ab hi
    split at h
    . rename_i m bX hm bk
      simp only[aV] at h;subst h;exact h4 aB rfl fun v aq=>aHG ak az hu hm bk ab hi aq
    . cases h
  . cases h
 case extract x i=>
  simp only[dJ] at h;obtain⟨y,aD,rfl⟩:=h;exact h4 aB rfl fun v aq=>aBx ak az aD aq
 case call c=>
  obtain⟨callee,args,iG⟩:=c;cases callee with
  |builtin b=>exact abJ aB ak az h
  |value f=>
   cases f with
   |func f=>
    simp only[dJ] at h;obtain⟨bG,_,rfl⟩:=h;exact ET rfl
   |tmp t=>
    obtain⟨p,q,_,_,rfl⟩:=hz h;exact ET rfl
   |const c=>
    obtain⟨p,q,_,_,rfl⟩:=hz h;exact ET rfl
   |global g=>
    obtain⟨p,q,_,_,rfl⟩:=hz h;exact ET rfl
  |invoke r m=>simp at h
end
end Go.aQ
namespace Go.aQ
open Go.RowKit (Below)
section
variable{P:Program}{w:World}{Γ:Env}{M:Mem}{s:aH}{a:Act}{o:Oper}{v:V}
theorem wa{n:Nat}:∀{xs:List V},cS n xs=true->∀(j:Nat)(x:V),xs[j]? =some x->x.under n=true
 |[],_,j,x,h=>by simp at h
 |y::bG,hu,j,x,h=>by
  simp only[cS,b_] at hu;cases j with
  |zero=>simp at h;exact h▸hu.1
  |succ j=>exact wa hu.2 j x (by simpa using h)
theorem bp.move{n:Nat}{w':World}{Γ':Env}(ak:∀b o,Γ.S b o->Γ'.S b o/\k6 w' b o=k6 w b o)(ag:∀i,i<n->Γ'.cW[i]? =Γ.cW[i]?){x:V}{bg:Value}(h:bp w Γ x bg)(ab:x.under n=true):bp w' Γ' x bg:=by
 induction h with
 |undef v=>exact .undef v
 |bool b=>exact .bool b
 |int k n=>exact .int k n
 |str s=>exact .str s
 |dm=>exact .dm
 |gu=>exact .gu
 |jB=>exact .jB
 |iE c ar=>exact .iE c ar
 |lE c ar p=>exact .lE c ar p
 |slice rows c b o sz cap bl ar aC fZ fP bh dL ax al bq=>exact(bp.slice rows c b o sz cap bl ar aC fZ fP bh dL ax al).D9 ak rfl
 |gC cells b o bl bh dL ax al bq=>exact(bp.gC cells b o bl bh dL ax al).D9 ak rfl
 |cN cells b o bl aK bh dL ax al bq=>exact(bp.cN cells b o bl aK bh dL ax al).D9 ak rfl
 |dH f da bl hlen ax al bq=>exact(bp.dH f da bl hlen ax al).D9 ak rfl
 |ptr id off l ei aj aq=>exact .ptr id off l (by rw[ag id (by simpa[V.under] using ab)];exact ei) aj aq
 |fo id ver row off l ei aq p h=>exact .fo id ver row off l (by rw[ag id (by simpa[V.under] using ab)];exact ei) aq p h
 |aX id ver start len l ei aq q h ar=>exact .aX id ver start len l (by rw[ag id (by simpa[V.under] using ab)];exact ei) aq q h ar
 |map id l ei aj aq=>exact .map id l (by rw[ag id (by simpa[V.under] using ab)];exact ei) aj aq
 |fn f da bl hlen al bq=>exact .fn f da bl hlen (fun j x ap=>bq j x ap (wa (by simpa[V.under] using ab) j x ap))
 |agg cells bl hlen al bq=>exact .agg cells bl hlen (fun j x ap=>bq j x ap (wa (by simpa[V.under] using ab) j x ap))
 |tuple vs bl hlen al bq=>exact .tuple vs bl hlen (fun j x ap=>bq j x ap (wa (by simpa[V.under] using ab) j x ap))
def Env.out(Γ:Env)(n:Nat):Env:=⟨n,[],Γ.S⟩
theorem Good.out(aB:Good w Γ M):Good w (Γ.out w.heap.size) []:=
 ⟨rfl,fun i l B ag=>by simp[Env.out] at ag,fun i l ag=>by simp[Env.out] at ag,fun i j l l' ag=>by simp[Env.out] at ag,aB.jC,cF _,fun w' aj=>aB.jE w' (aj.mono aB.base)⟩
theorem frame(aB:Good w Γ M){f:Nat}{args:List V}{jI:Array Value}{R:V->Prop}(h:bQ P f args R)(bk:ef w Γ args jI)(hu:cS 0 args=true):
 Calls P f jI w (fun e w'=>∃v bl Γ',e=.returned bl/\R v/\v.under 0=true/\bp w' Γ' v bl/\Good w' Γ' M/\Ext w Γ w' Γ'/\Below w.heap.size w w'):=by
 have zl:ef w (Γ.out w.heap.size) args jI:=⟨bk.1,fun j x ab=>bp.move (n:=0) (Γ:=Γ) (w:=w) (Γ':=Γ.out w.heap.size) (w':=w) (fun b o ak=>⟨ak,rfl⟩) (fun i hi=>absurd hi (fb i)) (bk.2 j x ab) (wa hu j x ab)⟩;refine(h.2 w (Γ.out w.heap.size) jI aB.out zl).mono ?_;rintro e w' ⟨v,bl,Γ0,ah,he,⟨fO,bb,aq⟩,fS,Mf,tC⟩;subst bb;have sh:Below w.heap.size w w':=tC.below;have di:∀b q,b<w.heap.size->Γ0.S b q->Γ.S b q:=fun b q aj ak=>tC.rL b q aj ak;let Γ':Env:=⟨Γ.h1,Γ.cW,Γ0.S⟩
 have iQ:Ext w Γ w' Γ':=⟨fun b q ak=>tC.s b q ak,fun i l ag=>⟨l,ag,cF _,fun _=>rfl,fun _=>rfl⟩,rfl,sh.mono aB.base,fun b q aj ak=>di b q (Nat.lt_of_lt_of_le aj aB.base) ak⟩;refine⟨v,bl,Γ',he,fO,aq,bp.move (n:=0) (Γ:=Γ0) (w:=w') (Γ':=Γ') (w':=w') (fun b q ak=>⟨ak,rfl⟩) (fun i hi=>absurd hi (fb i)) fS aq,?_,iQ,sh⟩;refine⟨aB.len,fun i l B ag bY=>(aB.eG i l B ag bY).fJ iQ (fun aq=>sh.block _ (aB.m0 ag aq)) (fun aq q ak=>di _ q (aB.m0 ag aq) ak),aB.cq,aB.inj,Mf.jC,jH aB.base sh.size,aB.ys iQ⟩
theorem bQ.call{f:Nat}{args:List V}{R:V->Prop}(h:bQ P f args R)(hu:cS 0 args=true){K:V->Mem->Prop}(ao:∀v,R v->v.under 0=true->K v M):cj P f args M K:=
 ⟨h.1,fun _ _ _ aB bk=>(frame aB h bk hu).mono fun _ _ ⟨v,bl,Γ',he,fO,aq,fS,o4,iQ,_⟩=>⟨v,bl,Γ',M,he,ao v fO aq,fS,o4,iQ⟩⟩
def Env.je(Γ:Env)(w:World)(n:Nat):Env:=
 ⟨Γ.h1,Γ.cW.take n,fun b q=>Γ.S b q∨(∃i l,n<=i/\Γ.cW[i]? =some l/\l.live=true/\l.b=b/\∃v,w.cell? ⟨b,q,none⟩=some v)⟩
theorem tq{n:Nat}{x:V}{bg:Value}(h:bp w Γ x bg)(ab:x.under n=true):bp w (Γ.je w n) x bg:=
 h.move (n:=n) (Γ':=Γ.je w n) (w':=w) (fun b q ak=>⟨Or.inl ak,rfl⟩) (fun i hi=>by simp only[Env.je];exact hs hi) ab
theorem SO{n:Nat}{x:V}{bg:Value}(h:bp w Γ x bg)(ab:x.kd=true):bp w (Γ.je w n) x bg:=
 h.D9 (Γ':=Γ.je w n) (w':=w) (fun b q ak=>⟨Or.inl ak,rfl⟩) ab
theorem DU{f:V->Option V}:∀{xs bG:List V},ke f xs=some bG->xs.length=bG.length/\∀(j:Nat)(y:V),bG[j]? =some y->∃x,xs[j]? =some x/\f x=some y
 |[],bG,h=>by
  simp only[ke,aV] at h;subst h;exact⟨rfl,fun j y aD=>by simp at aD⟩
 |x::xs,bG,h=>by
  simp only[ke] at h;split at h
  . rename_i y nd U af
    simp only[aV] at h;subst h;obtain⟨ag,aB⟩:=DU af;refine⟨by simp[ag],fun j z a7=>?_⟩;cases j with
    |zero=>simp at a7;subst a7;exact⟨x,rfl,U⟩
    |succ j=>
     obtain⟨df,ay,be⟩:=aB j z (by simpa using a7);exact⟨df,by simpa using ay,be⟩
  . cases h
theorem SK(aB:Good w Γ M){n:Nat}:∀(k:Nat){x y:V}{bg:Value},bp w Γ x bg->fu M n k x=some y->bp w (Γ.je w n) y bg:=by
 intro k;induction k with
 |zero=>
  intro x y bg h aC;simp only[fu] at aC;obtain⟨hu,rfl⟩:=fe aC;exact tq h hu
 |succ k bq=>
  intro x y bg h aC;have aAC:∀{z:V},(bif z.under n then some z else none)=some y->bp w Γ z bg->bp w (Γ.je w n) y bg:=fun{z} a7 al=>by
   obtain⟨hu,rfl⟩:=fe a7;exact tq al hu
  have Nc:∀{xs bG:List V}{bl:Array Value},ke (fu M n k) xs=some bG->bl.size=xs.length->(∀(j:Nat)(x:V),xs[j]? =some x->bp w Γ x (bl.getD j Go.undef))->bl.size=bG.length/\∀(j:Nat)(x:V),bG[j]? =some x->bp w (Γ.je w n) x (bl.getD j Go.undef):=fun{xs bG bl} hm ag al=>by
   obtain⟨U,af⟩:=DU hm;refine⟨by omega,fun j y aD=>?_⟩;obtain⟨x,ab,hj⟩:=af j y aD;exact bq (al j x ab) hj
  cases x
  case ptr id off=>
   simp only[fu] at aC;cases aw:decide (id<n) with
   |true=>
    simp only[aw,cond_true,aV] at aC;subst aC;exact tq h (by simpa[V.under] using aw)
   |false=>
    simp only[aw,cond_false] at aC;have bf:n<=id:=by simpa using aw
    split at aC
    . rename_i cells bb
      split at aC
      . rename_i cs hm
        obtain⟨ar,rfl⟩:=fe aC;simp only[b_,decide_eq_true_eq] at ar;cases h with
        |ptr _ _ l ag aj aq=>
         obtain⟨U,_,af,c,T,ay,be⟩:=aB.eG id l _ ag bb;obtain⟨aW,a9⟩:=DU hm;have dL:∀j,j<cs.length->w.cell? ⟨l.b,off+j,none⟩=some (c.getD (off+j) Go.undef):=fun j ap=>by
          rw[km ay];exact jK (by rw[be.1];simp at aW;omega)
         have di:∀j,j<cs.length->(Γ.je w n).S l.b (off+j):=fun j ap=>.inr ⟨id,l,bf,ag,aq,rfl,_,dL j ap⟩;have fO:∀(j:Nat)(y:V),cs[j]? =some y->bp w (Γ.je w n) y (c.getD (off+j) Go.undef):=fun j y aD=>by
          obtain⟨x,ab,hj⟩:=a9 j y aD;rw[kL] at ab;exact bq (be.2 _ _ ab) hj
         split
         . exact .cN _ l.b 0 (fun j=>c.getD (0+j) Go.undef) (by simp) di (fun j ap=>by simp only[k6,dL j ap,ay]) (uI ar.1) fO
         . exact .gC cs l.b off (fun j=>c.getD (off+j) Go.undef) di dL (uI ar.1) fO
      . cases aC
    . cases aC
  case aX id ver start len=>
   simp only[fu] at aC;cases aw:decide (id<n) with
   |true=>
    simp only[aw,cond_true,aV] at aC;subst aC;exact tq h (by simpa[V.under] using aw)
   |false=>
    simp only[aw,cond_false] at aC;have bf:n<=id:=by simpa using aw
    split at aC
    . rename_i z rows hP fz bb
      obtain⟨ar,rfl⟩:=fe aC;simp only[b_,beq_iff_eq,decide_eq_true_eq] at ar;cases h with
      |aX _ _ _ _ l ag jx _ eF nu=>
       obtain⟨U,a4,af,ay,be,bv,b7,dQ,ch⟩:=aB.eG id l _ ag bb;have hlen:((rows.drop start).take len).length=len:=by simp;omega
       rcases eF (by rw[af,ar.1]) with⟨_,rfl,rfl⟩|⟨ed,fZ,of,h6,rfl,iT,hk,gz⟩
       . rw[List.take_zero]
         exact .iE _ (.inr rfl)
       . obtain⟨di,c,T,ch,eL,fp⟩:=ch ed
         have dL:∀i j,i<len->j<l.sz->w.cell? ⟨l.b,of+(i*l.sz+j),none⟩=some (c.getD ((start+i)*l.sz+j) Go.undef):=fun i j hi ap=>by
          rw[gz (by omega),km ch,ik,kM];refine jK ?_;have:=ul (n:=l.cap) (i:=start+i) (by omega) ap;rw[ik] at this;omega
         have gr:∀i r,((rows.drop start).take len)[i]? =some r->i<len/\rows[start+i]? =some r:=fun i r al=>by
          have hi:i<len:=by rw[<-hlen];exact(bn.1 al).1
          rw[hs hi,kL] at al;exact⟨hi,al⟩
         have:=bp.slice (w:=w) (Γ:=Γ.je w n) ((rows.drop start).take len) .cv l.b of l.sz h6 (fun i j=>c.getD ((start+i)*l.sz+j) Go.undef) (by simp) (by simp) (by rw[hlen];omega)
          (fun i r al=>b7 _ _ (gr i r al).2)
          (fun i j hi ap=>.inr ⟨id,l,bf,ag,ed,rfl,_,dL i j (by rw[<-hlen];exact hi) ap⟩)
          (fun i j hi ap=>dL i j (by rw[<-hlen];exact hi) ap)
          (fun i r j x al ab=>dQ _ _ _ _ (gr i r al).2 ab)
          (fun i r j x al ab=>SO (fp _ _ _ _ (gr i r al).2 ab) (dQ _ _ _ _ (gr i r al).2 ab));rw[hlen] at this;exact this
    . rename_i cells hP bb
      cases ar:hP==ver&&decide (start+len<=cells.length) with
      |false=>simp[ar] at aC
      |true=>
       simp only[ar,cond_true] at aC;simp only[b_,beq_iff_eq,decide_eq_true_eq] at ar;split at aC
       . rename_i cs hm
         obtain⟨MB,rfl⟩:=fe aC;obtain⟨aW,a9⟩:=DU hm;have hlen:cs.length=len:=by rw[<-aW];simp;omega
         cases h with
         |aX _ _ _ _ l ag jx _ eF nu=>
          obtain⟨U,a4,af,be,bv,ch⟩:=aB.eG id l _ ag bb;rcases eF (by rw[af,ar.1]) with⟨_,rfl,rfl⟩|⟨ed,fZ,of,h6,rfl,iT,hk,gz⟩
          . have:cs=[]:=List.length_eq_zero_iff.1 hlen
            subst this;exact .iE _ (.inr rfl)
          . obtain⟨di,c,T,ch,eL,fp⟩:=ch ed
            have dL:∀i,i<len->w.cell? ⟨l.b,of+i,none⟩=some (c.getD (start+i) Go.undef):=fun i hi=>by
             rw[gz (by omega),a4,kN,km ch];exact jK (by omega)
            have NQ:∀(i:Nat)(r:List V),(cs.map fun x=>[x])[i]? =some r->∃x,cs[i]? =some x/\r=[x]:=fun i r al=>by
             rw[gY,dJ] at al;obtain⟨x,ab,rfl⟩:=al;exact⟨x,ab,rfl⟩
            have Qr:∀(r:List V)(x y:V)(j:Nat),r=[x]->r[j]? =some y->j=0/\y=x:=fun r x y j al aD=>by
             subst al;have ap:j=0:=by
              have:=(bn.1 aD).1;simp at this;omega
             subst ap;simp only[ja,aV] at aD;exact⟨rfl,aD.symm⟩
            have:=bp.slice (w:=w) (Γ:=Γ.je w n) (cs.map fun x=>[x]) .cv l.b of 1 h6 (fun i _=>c.getD (start+i) Go.undef) (by simp) (by simp) (by simp[hlen];omega)
             (fun i r al=>by obtain⟨x,_,rfl⟩:=NQ i r al;rfl)
             (fun i j hi ap=>by
               have zw:j=0:=by omega
               subst zw;rw[kN,iJ];exact .inr ⟨id,l,bf,ag,ed,rfl,_,dL i (by simpa[hlen] using hi)⟩)
             (fun i j hi ap=>by
               have zw:j=0:=by omega
               subst zw;rw[kN,iJ];exact dL i (by simpa[hlen] using hi))
             (fun i r j x al ab=>by
               obtain⟨z,a7,vp⟩:=NQ i r al;obtain⟨rfl,rfl⟩:=Qr r z x j vp ab;exact uI MB _ _ a7)
             (fun i r j x al ab=>by
               obtain⟨z,a7,vp⟩:=NQ i r al;obtain⟨rfl,rfl⟩:=Qr r z x j vp ab;obtain⟨u,hu,ml⟩:=a9 i x a7;have hi:i<len:=by rw[<-hlen];exact(bn.1 a7).1
               rw[hs hi,kL] at hu;exact bq (fp _ _ hu) ml);rw[eD,hlen] at this;exact this
       . cases aC
    . cases aC
  case fn f da=>
   simp only[fu] at aC;split at aC
   . rename_i cs hm
     simp only[aV] at aC;subst aC;cases h with
     |fn _ _ bl ag al=>
      obtain⟨dw,dn⟩:=Nc hm ag al;cases ax:hy cs with
      |true=>exact .dH f cs bl dw (uI ax) dn
      |false=>exact .fn f cs bl dw dn
   . cases aC
  case agg cells=>
   simp only[fu,dJ] at aC;obtain⟨cs,hm,rfl⟩:=aC;cases h with
   |agg _ bl ag al=>
    obtain⟨dw,dn⟩:=Nc hm ag al;exact .agg cs bl dw dn
  case tuple vs=>
   simp only[fu,dJ] at aC;obtain⟨cs,hm,rfl⟩:=aC;cases h with
   |tuple _ bl ag al=>
    obtain⟨dw,dn⟩:=Nc hm ag al;exact .tuple cs bl dw dn
  all_goals exact aAC (by simpa only[fu] using aC) h
end
end Go.aQ
namespace Go.aQ
open Go.RowKit (Below)
theorem aLv{x:V}(h:x.qc=true){n:Nat}:x.under n=true:=by
 have one:∀{y:V},y.vK=true->y.under n=true:=fun{y} aD=>by cases y<;>first|rfl|cases aD
 have all:∀(xs:List V),xs.all V.vK=true->cS n xs=true:=fun xs=>by
  induction xs with
  |nil=>intro _;rfl
  |cons y bG bq=>intro h;simp only[List.all_cons,b_] at h;simp only[cS,one h.1,bq h.2,eR]
 cases x with
 |agg cells=>exact all cells h
 |_=>exact one h
theorem W4{n:Nat}:∀{es:List (V×V)},nb n es=true->∀(i:Nat)(cx:V×V),es[i]? =some cx->cx.2.under n=true
 |[],_,i,cx,h=>by simp at h
 |(k,v)::es,h,i,cx,hi=>by
  simp only[nb,b_] at h;cases i with
  |zero=>simp at hi;subst hi;exact h.1
  |succ i=>exact W4 h.2 i cx (by simpa using hi)
theorem Good.pop{w:World}{Γ:Env}{M:Mem}(aB:Good w Γ M){n:Nat}(aK:n<=M.length)(hm:cL n (M.take n)=true):Good w (Γ.je w n) (M.take n):=by
 have aGh:∀(N:Mem),cL n N=true->∀(i:Nat)(B:a2),N[i]? =some B->B.under n=true:=by
  intro N;induction N with
  |nil=>intro _ i B h;simp at h
  |cons h1 N bq=>
   intro h i B bY;simp only[cL,b_] at h;cases i with
   |zero=>simp at bY;exact bY▸h.1
   |succ i=>exact bq h.2 i B (by simpa using bY)
 have Hg:∀i l,(Γ.je w n).cW[i]? =some l->i<n/\Γ.cW[i]? =some l:=fun i l ag=>by
  simp only[Env.je] at ag;have hi:i<n:=by
   have:=(bn.1 ag).1;simp at this;omega
  rw[hs hi] at ag;exact⟨hi,ag⟩
 have CG:∀i l,i<n->Γ.cW[i]? =some l->l.live=true->∀q,(Γ.je w n).S l.b q->Γ.S l.b q:=fun i l hi ag aq q ak=>by
  rcases ak with ak|⟨j,m,ap,gy,Mt,aj,_⟩
  . exact ak
  . have:=aB.inj i j l m ag gy aq Mt aj.symm
    omega
 refine⟨by simp[Env.je,aB.len],fun i l B ag bY=>?_,fun i l ag=>aB.cq i l (Hg i l ag).2,fun i j l l' ag ei aq pl aj=>aB.inj i j l l' (Hg i l ag).2 (Hg j l' ei).2 aq pl aj,fun b q ak=>?_,aB.base,aB.jE⟩
 . obtain⟨hi,ag⟩:=Hg i l ag
   have h8:M[i]? =some B:=by rw[hs hi] at bY;exact bY
   have hu:=aGh _ hm i B bY;have aj:=aB.eG i l B ag h8;cases B with
   |box cells=>
    obtain⟨U,aq,af,c,T,ay,be⟩:=aj;exact⟨U,aq,fun q aG=>af q (CG i l hi ag aq q aG),c,T,ay,be.1,fun j x ab=>tq (be.2 j x ab) (wa (by simpa[a2.under] using hu) j x ab)⟩
   |arr sz rows ver fz=>
    obtain⟨U,a4,af,ay,be,bv,b7,dQ,ch⟩:=aj;refine⟨U,a4,af,ay,be,bv,b7,dQ,fun aq=>?_⟩;obtain⟨di,c,T,ch,eL,fp⟩:=ch aq;exact⟨fun q=>⟨fun aG=>(di q).1 (CG i l hi ag aq q aG),fun aG=>.inl ((di q).2 aG)⟩,c,T,ch,eL,fun i r j x al ab=>SO (fp i r j x al ab) (dQ i r j x al ab)⟩
   |map es=>
    obtain⟨U,aq,af,c8,clock,ay,be,bv,b7⟩:=aj;exact⟨U,aq,fun q aG=>af q (CG i l hi ag aq q aG),c8,clock,ay,be,fun i e cx dw dn=>by
     obtain⟨iD,f3,i4,r2,lt⟩:=bv i e cx dw dn;exact⟨iD,f3,tq i4 (aLv iD),tq r2 (W4 (by simpa[a2.under] using hu) i cx dn),lt⟩,b7⟩
   |vec cells ver=>
    obtain⟨U,a4,af,be,bv,ch⟩:=aj;refine⟨U,a4,af,be,bv,fun aq=>?_⟩;obtain⟨di,c,T,ch,eL,fp⟩:=ch aq;exact⟨fun q aG=>di q (CG i l hi ag aq q aG),c,T,ch,eL,fun j x ab=>tq (fp j x ab) (wa (by simpa[a2.under] using hu) j x ab)⟩
   |iter mid m seen=>
    obtain⟨U,aq,af,i1,ay,be,bv,b7⟩:=aj;have gy:mid<n:=by simpa[a2.under] using hu
    exact⟨U,aq,fun q aG=>af q (CG i l hi ag aq q aG),i1,by simp only[Env.je];rw[hs gy];exact ay,be,bv,b7⟩
   |dead=>exact aj
 . rcases ak with ak|⟨i,l,hi,ag,aq,aj,ar⟩
   . exact aB.jC b q ak
   . exact ar
theorem Ext.pop{w0 w:World}{Γ0 Γ:Env}{M:Mem}(aB:Good w Γ M)(he:Ext w0 Γ0 w Γ){n:Nat}(a4:Γ0.cW.length<=n):Ext w0 Γ0 w (Γ.je w n) where
 s b q ak:=⟨.inl (he.s b q ak).1,(he.s b q ak).2⟩
 cW i l ag:=by
  obtain⟨l',U,af⟩:=he.cW i l ag;have hi:i<n:=Nat.lt_of_lt_of_le (bn.1 ag).1 a4;exact⟨l',by simp only[Env.je];rw[hs hi];exact U,af⟩
 cq:=he.cq
 below:=he.below
 rL b q aj ak:=by
  rcases ak with ak|⟨i,l,hi,ag,aq,nq,_⟩
  . exact he.rL b q aj ak
  . have:=aB.cq i l ag
    rw[he.cq] at this;omega
structure cA(w0:World)(Γ0:Env)(n:Nat)(w:World)(Γ:Env)(s:aH)(M:Mem)(a:Act):Prop where
 fY:Good w Γ M
 gM:eh w Γ s a.tmps
 size:a.tmps.size=n
 defers:a.defers=[]
 ext:Ext w0 Γ0 w Γ
section
variable{P:Program}{w0 w:World}{Γ0 Γ:Env}{M:Mem}{s:aH}{a:Act}{n:Nat}
theorem l5(s:aH)(u:Nat)(x:V)(t:Nat):aY (eK s u x) t=if t=u then x else aY s t:=by
 simp only[eK,aY];by_cases h:t=u
 . subst h;simp
 . have:(u==t)=false:=by simpa using fun e=>h e.symm
   simp[this,h]
theorem aLX{x:V}{bg:Value}(ak:eh w Γ s a.tmps)(ab:bp w Γ x bg){dst:Option Nat}(aw:∀d,dst=some d->d<a.tmps.size):eh w Γ (bA s dst x) (a.put dst bg).tmps:=by
 cases dst with
 |none=>exact ak
 |some d=>
  intro t;have aw:=aw d rfl;simp only[bA,l5,Act.put];by_cases h:t=d
  . subst h
    simp only[if_true];simpa[ih,aw] using ab
  . simp only[h,if_false]
    have:=ak t;simpa[ih,Array.getElem?_setIfInBounds_ne (gi h)] using this
theorem Wl{u:Nat}{x:V}(ak:eh w Γ s a.tmps)(h:aY s u=x):eh w Γ (eK s u x) a.tmps:=by
 intro t;rw[l5];split
 . rename_i e;subst e;rw[<-h];exact ak t
 . exact ak t
theorem cA.put(h:cA w0 Γ0 n w Γ s M a){x:V}{bg:Value}(ab:bp w Γ x bg){dst:Option Nat}(aw:∀d,dst=some d->d<n):cA w0 Γ0 n w Γ (bA s dst x) M (a.put dst bg):=
 ⟨h.fY,aLX h.gM ab (fun d e=>by rw[h.size];exact aw d e),by cases dst<;>simp[Act.put,h.size],by cases dst<;>simp[Act.put,h.defers],h.ext⟩
theorem cA.qe(h:cA w0 Γ0 n w Γ s M a){w':World}{Γ':Env}{ah:Mem}(aB:Good w' Γ' ah)(he:Ext w Γ w' Γ'):cA w0 Γ0 n w' Γ' s ah a:=
 ⟨aB,h.gM.ext he,h.size,h.defers,h.ext.trans he⟩
theorem cA.norm(h:cA w0 Γ0 n w Γ s M a)(live:List Nat):cA w0 Γ0 n w Γ (gW s live) M a:=
 ⟨h.fY,fun t=>by
   have:∀l:List Nat,bp w Γ (aY (gW s l) t) (a.tmps.getD t Go.undef):=by
    intro l;induction l with
    |nil=>exact .undef _
    |cons u l bq=>
     simp only[gW,aY];by_cases hu:u=t
     . subst hu;simpa using h.gM u
     . have:(u==t)=false:=by simpa using hu
       simpa[this] using bq
   exact this live,h.size,h.defers,h.ext⟩
theorem VP:bp w Γ (.tuple []) Go.undef:=.tuple [] #[] rfl (fun j x ab=>by simp at ab)
theorem Xr{aF:Array Oper}{j d:Nat}(aw:A8 n aF j=some d)(aK:a.tmps.size=n){b:Bool}(h:a.tmps.getD d Go.undef=.bool b):yielded aF a.tmps j=some b:=by
 unfold A8 at aw;split at aw
 . rename_i o az
   split at aw
   . rename_i hB u5
     split at aw
     . rename_i bw
       simp only[aV] at aw;subst aw;have Mr:hB<a.tmps.size:=by rw[aK];assumption
       have gG:a.tmps[hB]? =some (.bool b):=by rw[jK Mr,h]
       simp[yielded,az,u5,gG]
     . cases aw
   . cases aw
 . cases aw
theorem Xs{aF:Array Oper}{j d:Nat}(aw:A8 n aF j=some d)(aK:a.tmps.size=n)(h:a.tmps.getD d Go.undef=.tuple #[]):yielded aF a.tmps j=none:=by
 unfold A8 at aw;split at aw
 . rename_i o az
   split at aw
   . rename_i hB u5
     split at aw
     . rename_i bw
       simp only[aV] at aw;subst aw;have Mr:hB<a.tmps.size:=by rw[aK];assumption
       have gG:a.tmps[hB]? =some (.tuple #[]):=by rw[jK Mr,h]
       simp[yielded,az,u5,gG]
     . cases aw
   . cases aw
 . cases aw
theorem NN{mu:List Nat}{aF:Array Oper}{i:Nat}{o:Oper}{cg:bt}(h:sL P n mu aF i o=some cg):
 ∃op g,gK P (mu.contains i) (mu.contains (i+5000)) o.type o.op=some op/\yd n aF o.guard=some g/\cg=⟨o.dst,op,DK P o.type,g⟩/\∀d,o.dst=some d->d<n:=by
 unfold sL at h;split at h
 . rename_i op g U af
   split at h
   . rename_i aw
     simp only[aV] at h;exact⟨op,g,U,af,by rw[<-h,aw],fun d e=>by rw[aw] at e;cases e⟩
   . rename_i d aw
     split at h
     . rename_i bw
       simp only[aV] at h;exact⟨op,g,U,af,by rw[<-h,aw],fun hB e=>by rw[aw] at e;cases e;exact bw⟩
     . cases h
 . cases h
theorem VH{dst:Option Nat}{bx:Bool}{v:V}{K:aH->Prop}(h:kC s dst bx v K):K (bA s dst v):=by
 unfold kC at h;cases bx with
 |false=>exact h
 |true=>
  simp only[s3] at h;split at h
  . rename_i b aj
    simp only[aV] at aj;subst aj;exact h
  . exact h.elim
theorem ef.append{xs bG:List V}{cs bI:Array Value}(U:ef w Γ xs cs)(af:ef w Γ bG bI):ef w Γ (xs++bG) (cs++bI):=by
 refine⟨by simp[U.1,af.1],fun j x ab=>?_⟩;by_cases ap:j<xs.length
 . rw[gh ap] at ab
   have:=U.2 j x ab;have o8:j<cs.size:=by rw[U.1];exact ap
   simpa[ih,Array.getElem?_append,o8] using this
 . rw[jX (by omega)] at ab
   have:=af.2 _ x ab;have o8:¬j<cs.size:=by rw[U.1];exact ap
   simpa[ih,Array.getElem?_append,o8,U.1,ap] using this
theorem Qm{f:Nat}(aC:u1 P f=true)(args:Array Value)(w':World):(callFunc f args).run P w'=.ok (.enter f args) w':=by
 unfold u1 at aC;split at aC
 . rename_i fn Mc
   simp only[b_,bne_iff_ne,ne_eq] at aC;have aj:fn.body≠none:=by
    intro zm;simp[zm] at aC
   simp[callFunc,Mc,aC.2,aj]
 . cases aC
theorem azP{o:Oper}{f:Nat}{args:Array Operand}{iG:Array TypeId}(az:o.op=.call ⟨.value (.func f),args,iG⟩)(aC:u1 P f=true)(w':World):(execOp a.eval o).run P w'=.ok (.enter f (args.map a.eval)) w':=by
 have e:a.eval (.func f)=.func (.func f) #[] #[]:=rfl;simp[execOp,az,resolve,e,Deferred.ofValue,invoke,Qm aC]
theorem Qp{o:Oper}{ju:Operand}{f:Nat}{da:Array Value}{args:Array Operand}{iG:Array TypeId}(az:o.op=.call ⟨.value ju,args,iG⟩)(aq:a.eval ju=.func (.func f) #[] da) (aC:u1 P f=true) (w':World):
 (execOp a.eval o).run P w'=.ok (.enter f (args.map a.eval++da)) w':=by
 simp[execOp,az,resolve,aq,Deferred.ofValue,invoke,Qm aC]
theorem aKX{mu k3:Bool}{na:TypeId}{op:Op}{y:aU}(h:gK P mu k3 na op=some (.rz y)):∃x,op=.next x false/\b2 x=some y:=by
 cases op
 case next x b=>
  cases b<;>simp only[gK,dJ,reduceCtorEq] at h;obtain⟨g8,aD,e⟩:=h;cases e;exact⟨x,rfl,aD⟩
 case call c=>
  exfalso;obtain⟨callee,args,iG⟩:=c;cases callee with
  |builtin b=>
   simp only[gK,vX] at h
   (repeat' (split at h))<;>first
     |contradiction
     |(cases h;done)
     |(simp only[dJ] at h;obtain⟨_,_,e⟩:=h;cases e;done)
     |(obtain⟨_,_,_,_,e⟩:=hz h;cases e;done)
  |value f=>
   cases f<;>simp only[gK] at h
   case func f=>simp only[dJ] at h;obtain⟨_,_,e⟩:=h;cases e
   all_goals (obtain⟨_,_,_,_,e⟩:=hz h;cases e)
  |invoke r m=>simp[gK] at h
 all_goals
  exfalso;simp only[gK,reduceCtorEq] at h<;>(repeat' (split at h))<;>first
   |contradiction
   |(cases h;done)
   |(simp only[dJ] at h;obtain⟨_,_,e⟩:=h;cases e;done)
   |(simp only[aV] at h;cases h;done)
   |(obtain⟨_,e⟩:=fe h;cases e;done)
   |(obtain⟨_,_,_,_,e⟩:=hz h;cases e;done)
theorem aKY{mu k3:Bool}{na:TypeId}{op:Op}{n:Bool}{qw Et:aU}(h:gK P mu k3 na op=some (.oq n qw Et)):
 ∃AZ t x y gD,op=.binOp AZ t x y gD/\Ap P t=true/\b2 x=some qw/\b2 y=some Et/\(AZ=.eql/\n=false∨AZ=.neq/\n=true):=by
 cases op
 case binOp AZ t x y gD=>
  simp only[gK] at h;split at h
  . rename_i aj
    simp only[b_] at aj;obtain⟨p,q,ax,aG,e⟩:=hz h;cases e;exact⟨_,t,x,y,gD,rfl,aj.2,ax,aG,.inl ⟨rfl,rfl⟩⟩
  . rename_i aj
    simp only[b_] at aj;obtain⟨p,q,ax,aG,e⟩:=hz h;cases e;exact⟨_,t,x,y,gD,rfl,aj.2,ax,aG,.inr ⟨rfl,rfl⟩⟩
  . obtain⟨p,q,ax,aG,e⟩:=hz h
    cases e
 case next x b=>
  exfalso;cases b<;>simp only[gK,dJ,reduceCtorEq] at h;obtain⟨_,_,e⟩:=h;cases e
 case call c=>
  exfalso;obtain⟨callee,args,iG⟩:=c;cases callee with
  |builtin b=>
   simp only[gK,vX] at h
   (repeat' (split at h))<;>first
     |contradiction
     |(cases h;done)
     |(simp only[dJ] at h;obtain⟨_,_,e⟩:=h;cases e;done)
     |(obtain⟨_,_,_,_,e⟩:=hz h;cases e;done)
  |value f=>
   cases f<;>simp only[gK] at h
   case func f=>simp only[dJ] at h;obtain⟨_,_,e⟩:=h;cases e
   all_goals (obtain⟨_,_,_,_,e⟩:=hz h;cases e)
  |invoke r m=>simp[gK] at h
 all_goals
  exfalso;simp only[gK,reduceCtorEq] at h<;>(repeat' (split at h))<;>first
   |contradiction
   |(cases h;done)
   |(simp only[dJ] at h;obtain⟨_,_,e⟩:=h;cases e;done)
   |(simp only[aV] at h;cases h;done)
   |(obtain⟨_,e⟩:=fe h;cases e;done)
   |(obtain⟨_,_,_,_,e⟩:=hz h;cases e;done)
theorem aKW{mu k3:Bool}{na:TypeId}{op:Op}{cg:dK}(h:gK P mu k3 na op=some cg)(ar:cg.jz=true):
 (∃f args iG bG,op=.call ⟨.value (.func f),args,iG⟩/\sD args.toList=some bG/\cg=.call f bG)∨(∃ju args iG y bG,op=.call ⟨.value ju,args,iG⟩/\b2 ju=some y/\sD args.toList=some bG/\cg=.hd y bG):=by
 have G4:∀(b:Builtin)(xs:List Operand)(d5:List TypeId),vX P b xs d5 mu=some cg->False:=fun b xs d5 aj=>by
  unfold vX at aj;split at aj
  . split at aj
    . simp only[dJ] at aj;obtain⟨y,_,rfl⟩:=aj;cases ar
    . simp only[dJ] at aj;obtain⟨y,_,rfl⟩:=aj;cases ar
    . simp only[dJ] at aj;obtain⟨y,_,rfl⟩:=aj;cases ar
    . simp only[aV] at aj;subst aj;cases ar
    . split at aj
      . simp only[aV] at aj;subst aj;cases ar
      . cases aj
    . cases aj
  . split at aj
    . split at aj
      . split at aj
        . simp only[aV] at aj;subst aj;cases ar
        . cases aj
      . cases aj
    . cases aj
  . split at aj
    . split at aj
      . split at aj
        . simp only[aV] at aj;subst aj;cases ar
        . cases aj
      . cases aj
    . cases aj
  . obtain⟨p,q,_,_,rfl⟩:=hz aj;cases ar
  . obtain⟨p,q,_,_,rfl⟩:=hz aj;cases ar
  . cases aj
 cases op
 case call c=>
  obtain⟨callee,args,iG⟩:=c;cases callee with
  |builtin b=>exact(G4 _ _ _ (by simpa only[gK] using h)).elim
  |value f=>
   cases f with
   |func f=>
    simp only[gK,dJ] at h;obtain⟨bG,aD,rfl⟩:=h;exact .inl ⟨f,args,iG,bG,rfl,aD,rfl⟩
   |tmp t=>
    simp only[gK] at h;obtain⟨p,q,ax,aG,rfl⟩:=hz h;exact .inr ⟨_,args,iG,p,q,rfl,ax,aG,rfl⟩
   |const c=>
    simp only[gK] at h;obtain⟨p,q,ax,aG,rfl⟩:=hz h;exact .inr ⟨_,args,iG,p,q,rfl,ax,aG,rfl⟩
   |global g=>
    simp only[gK] at h;obtain⟨p,q,ax,aG,rfl⟩:=hz h;exact .inr ⟨_,args,iG,p,q,rfl,ax,aG,rfl⟩
  |invoke r m=>simp[gK] at h
 all_goals
  exfalso;simp only[gK,reduceCtorEq] at h<;>(repeat' (split at h))<;>first
   |contradiction
   |(cases h;done)
   |(simp only[dJ] at h;obtain⟨_,_,rfl⟩:=h;cases ar;done)
   |(simp only[aV] at h;subst h;cases ar;done)
   |(obtain⟨_,rfl⟩:=fe h;cases ar;done)
   |(obtain⟨_,_,_,_,rfl⟩:=hz h;cases ar;done)
end
end Go.aQ
namespace Go.aQ
open Go.RowKit (Below)
section
variable{P:Program}{w0 w:World}{Γ0 Γ:Env}{M:Mem}{s:aH}{a:Act}{n:Nat}
theorem aJ0(ak:eh w Γ s a.tmps){o:Oper}{op:BinOp}{t gD:TypeId}{x y:Operand}{df g8:aU}{neg:Bool}(az:o.op=.binOp op t x y gD)(ab:b2 x=some df)(aD:b2 y=some g8)
 (aT:Ap P t=true)(g5:op=.eql/\neg=false∨op=.neq/\neg=true)(aC:w5 (aN s df) (aN s g8)=true):∃b:Bool,(execOp a.eval o).run P w=.ok (.value (.bool b)) w:=by
 have rx:=d4 ak ab;have hN:=d4 ak aD;unfold Ap at aT;split at aT
 . rename_i e hu
   split at aT
   . rename_i n aK
     have p3:n≠0:=by simpa using Nat.pos_iff_ne_zero.1 (of_decide_eq_true aT)
     unfold w5 at aC;split at aC
     . rename_i cs bI L9 L_
       rw[L9] at rx;rw[L_] at hN;generalize d7:a.eval x=bg at rx;generalize L3:a.eval y=dd at hN;have plain:∀(b q:Nat)(u:Value),k6 w b q=(some u,some (0,0))->∃c T,w.heap[b]? =some (.cells c T (0,0)):=fun b q u h=>by
        have af:=congrArg Prod.snd h;simp only[k6] at af;split at af
        . rename_i c T f ce
          simp only[aV] at af;subst af;exact⟨c,T,ce⟩
        . cases af
       cases rx with
       |cN _ c4 mA aN1 vO s1 eS _ _=>
        cases hN with
        |cN _ dF hI aN2 vP ds gQ _ _=>
         obtain⟨d1,aaa,bH⟩:=plain _ _ _ (eS 0 vO);obtain⟨d2,aab,b8⟩:=plain _ _ _ (gQ 0 vP);have ny:∃b:Bool,(sameAddr ⟨c4,mA,none⟩ ⟨dF,hI,none⟩).run P w=.ok b w:=by
          by_cases zk:(⟨c4,mA,none⟩:Addr)=⟨dF,hI,none⟩
          . exact⟨true,by rw[zk];simp[run_sameAddr_same]⟩
          . exact⟨false,run_sameAddr_other w zk bH b8⟩
         obtain⟨b,ny⟩:=ny;have co:(Op.equalIn (9999+1) t (.pointer (some ⟨c4,mA,none⟩)) (.pointer (some ⟨dF,hI,none⟩))).run P w=.ok b w:=by
          rw[Op.equalIn];simp[ej hu,gV aK,p3,ny]
         have fD:∀(p q:Operand),(eqGuard op t p q (.pointer (some ⟨c4,mA,none⟩)) (.pointer (some ⟨dF,hI,none⟩))).run P w=.ok () w:=fun p q=>tu op t p q _ _ (by simp) (by simp) w;refine⟨b !=neg,?_⟩;have LU:(binOp op t (.pointer (some ⟨c4,mA,none⟩)) (.pointer (some ⟨dF,hI,none⟩))).run P w=.ok (.bool (b !=neg)) w:=by
          rcases g5 with⟨rfl,rfl⟩|⟨rfl,rfl⟩
          . show(do pure (.bool (<-Op.equal t _ _)):Sem Value).run P w=_
            simp[wS,co]
          . show(do pure (.bool (!(<-Op.equal t _ _))):Sem Value).run P w=_
            simp[wS,co]
         simp only[execOp,az,Sem.run_bind,d7,L3,fD,Result.andThen_ok,LU];simp
     . cases aC
   . cases aT
 . cases aT
theorem Xm(h:cA w0 Γ0 n w Γ s M a){o:Oper}{mu k3:Bool}{op:dK}(al:gK P mu k3 o.type o.op=some op)(aw:∀d,o.dst=some d->d<n){bx:Bool}{K:aH->Mem->Prop}(hw:wpOp P false op o.dst bx s M K)
 {next:Act->World->Prop}{Q:Exit->Act->World->Prop}(ao:∀aM ah du w' Γ',cA w0 Γ0 n w' Γ' aM ah du->K aM ah->next du w'):o.wp P a w next Q:=by
 have GZ:=aaW h.fY h.gM al;by_cases ar:op.jz=true
 . have Ou:∀(f:Nat)(args:List V)(jI:Array Value),(∀w',u1 P f=true->(execOp a.eval o).run P w'=.ok (.enter f jI) w')->ef w Γ args jI->oD P false f args M (fun v ah=>kC s o.dst bx v (fun aM=>K aM ah))->o.wp P a w next Q:=by
    intro f args jI co fS G5;have G5:cj P f args M (fun v ah=>kC s o.dst bx v (fun aM=>K aM ah)):=G5;unfold Oper.wp;rw[co w G5.1,Oper.upon_enter];refine(G5.2 w Γ jI h.fY fS).mono ?_;rintro e w' ⟨v,bl,Γ',ah,rfl,iR,aq,o4,he⟩;exact ao _ _ _ _ _ ((h.qe o4 he).put aq aw) (VH iR)
   rcases aKW al ar with⟨f,args,iG,bG,g5,aD,rfl⟩|⟨ju,args,iG,y,bG,g5,aHk,aD,rfl⟩
   . have fS:=Jk h.gM aD
     have mg:(args.toList.map a.eval).toArray=args.map a.eval:=Array.ext' (by simp);rw[mg] at fS;exact Ou f _ _ (fun w' aC=>azP g5 aC w') fS hw
   . have fS:=Jk h.gM aD
     have mg:(args.toList.map a.eval).toArray=args.map a.eval:=Array.ext' (by simp);rw[mg] at fS;have hj:=d4 h.gM aHk;have hw:mE P false (aN s y) (e9 s bG) M (fun v ah=>kC s o.dst bx v (fun aM=>K aM ah)):=hw;unfold mE at hw;split at hw
     . rename_i f da aq
       rw[aq] at hj;generalize d7:a.eval ju=bg at hj;cases hj with
       |dH _ _ bl ag ax jO=>exact Ou f _ _ (fun w' aC=>Qp g5 d7 aC w') (fS.append ⟨ag,jO⟩) hw
     . rename_i f da aq
       rw[aq] at hj;generalize d7:a.eval ju=bg at hj;cases hj with
       |fn _ _ bl ag jO=>exact Ou f _ _ (fun w' aC=>Qp g5 d7 aC w') (fS.append ⟨ag,jO⟩) hw
     . exact hw.elim
 . by_cases tN:∃y,op=.rz y
   . obtain⟨y,rfl⟩:=tN
     obtain⟨x,g5,aD⟩:=aKX al;have hw:rS (aN s y) M (fun v ah=>K (bA s o.dst v) ah):=hw;have ab:=d4 h.gM aD;generalize aOk:aN s y=aNa at hw ab;cases aNa with
     |ptr id off=>
      cases off with
      |succ _=>exact hw.elim
      |zero=>
      simp only[rS] at hw;cases bb:M[id]? with
      |none=>simp only[bb] at hw
      |some B=>
       cases B with
       |iter mid n seen=>
        simp only[bb] at hw;cases hm:M[mid]? with
        |none=>simp only[hm] at hw
        |some mK=>
         cases mK with
         |map es=>
          simp only[hm] at hw;obtain⟨aK,aET,aGg⟩:=hw;generalize d7:a.eval x=bg at ab;cases ab with
          |ptr _ _ l ag aj aq=>
           unfold Oper.wp;rcases aJC (P:=P) h.fY ag bb hm aK o.type with⟨d9,co⟩|⟨i,cx,bl,w',Γ',p0,sr,co,fS,o4,he⟩
           . have co:(execOp a.eval o).run P w=.ok (.value (.tuple #[.bool false])) w:=by simp[execOp,g5,d7,co]
             rw[co,Oper.upon_value];exact ao _ _ _ _ _ (h.put (.tuple _ _ rfl fun j x ab=>by
              match j,ab with
              |0,ab=>simp at ab;subst ab;exact .bool false) aw) (aET d9)
           . have co:(execOp a.eval o).run P w=.ok (.value bl) w':=by simp[execOp,g5,d7,co]
             rw[co,Oper.upon_value];exact ao _ _ _ _ _ ((h.qe o4 he).put fS aw) (aGg i cx p0 sr)
         |_=>simp only[hm] at hw
       |_=>simp only[bb] at hw
     |_=>exact hw.elim
   have aM7:∀v ah,h3 P w Γ a o v ah->K (bA s o.dst v) ah->o.wp P a w next Q:=by
    rintro v ah ⟨r,w',Γ',co,fk,o4,he⟩ iR;unfold Oper.wp;rw[co];rcases fk with⟨bl,rfl,aq⟩|⟨rfl,rfl⟩
    . rw[Oper.upon_value]
      exact ao _ _ _ _ _ ((h.qe o4 he).put aq aw) iR
    . rw[Oper.upon_skip]
      exact ao _ _ _ _ _ ((h.qe o4 he).put (.undef _) aw) iR
   by_cases pd:∃n x y,op=.oq n x y
   . obtain⟨n,x,y,rfl⟩:=pd
     have hw:sV n (aN s x) (aN s y) M (fun v ah=>K (bA s o.dst v) ah):=hw;unfold sV at hw;cases aC:w5 (aN s x) (aN s y) with
     |true=>
      rw[aC] at hw;simp only at hw;obtain⟨AZ,t,AE,Es,gD,g5,aT,ab,aD,aK⟩:=aKY al;obtain⟨b,co⟩:=aJ0 h.gM g5 ab aD aT aK aC;unfold Oper.wp;rw[co,Oper.upon_value];exact ao _ _ _ _ _ (h.put (.bool b) aw) (match b with|true=>hw.1|false=>hw.2)
     |false=>
      rw[aC] at hw;simp only at hw;unfold s4 at hw;split at hw
      . rename_i v ah aq
        exact aM7 v ah (GZ.1 rfl v ah aq) hw
      . exact hw.elim
   have Ov:∀v ah,h3 P w Γ a o v ah->K (bA s o.dst v) ah->o.wp P a w next Q:=by
    rintro v ah ⟨r,w',Γ',co,fk,o4,he⟩ iR;unfold Oper.wp;rw[co];rcases fk with⟨bl,rfl,aq⟩|⟨rfl,rfl⟩
    . rw[Oper.upon_value]
      exact ao _ _ _ _ _ ((h.qe o4 he).put aq aw) iR
    . rw[Oper.upon_skip]
      exact ao _ _ _ _ _ ((h.qe o4 he).put (.undef _) aw) iR
   have gH:(match op.hl with
    |true=>s4 (m3 op s M) (fun v ah=>K (bA s o.dst v) ah)
    |false=>
     match bx with
     |true=>s3 (hL op s M) (fun b=>K (bA s o.dst (.bool b)) M)
     |false=>lL (hL op s M) (fun v=>K (bA s o.dst v) M)):=by
    cases bx<;>cases op<;>first|exact hw|(exfalso;exact ar rfl)|(exfalso;exact tN ⟨_,rfl⟩)|(exfalso;exact pd ⟨_,_,_,rfl⟩)
   cases hm:op.hl with
   |true=>
    simp only[hm] at gH;unfold s4 at gH;split at gH
    . rename_i v ah aq
      exact Ov v ah (GZ.1 hm v ah aq) gH
    . exact gH.elim
   |false=>
    simp only[hm] at gH;cases bx with
    |true=>
     simp only at gH;unfold s3 at gH;split at gH
     . rename_i b aq
       exact Ov _ M (GZ.2 hm _ aq).1 gH
     . exact gH.elim
    |false=>
     simp only at gH;unfold lL at gH;split at gH
     . rename_i v aq
       exact Ov _ M (GZ.2 hm _ aq).1 gH
     . exact gH.elim
theorem A7{α:Type}{l:List α}{k:Nat}{x:α}{xs:List α}(h:l.drop k=x::xs):l[k]? =some x/\l.drop (k+1)=xs:=by
 have U:=congrArg (·[0]?) h;have af:=congrArg (List.drop 1) h;exact⟨by simpa using U,by simpa[Nat.add_comm] using af⟩
theorem Xn{aF:Array Oper}{mu:List Nat}{Q:Exit->Act->World->Prop}{K:aH->Mem->Prop}(gq:∀aM ah du w' Γ',cA w0 Γ0 n w' Γ' aM ah du->K aM ah->Q .normal du w'):
 ∀(os:List Oper)(k:Nat)(a_:List bt)(s:aH)(M:Mem)(a:Act)(w:World)(Γ:Env),aF.toList.drop k=os->pw P n mu aF k os=some a_->cA w0 Γ0 n w Γ s M a->wpOps P false a_ s M K->
 Go.wpOps P aF Q (List.range' k os.length) a w
 |[],k,a_,s,M,a,w,Γ,xv,fk,bh,fg=>by
  simp only[pw,aV] at fk;subst fk;exact gq s M a w Γ bh fg
 |o::os,k,a_,s,M,a,w,Γ,xv,fk,bh,fg=>by
  simp only[pw] at fk;split at fk
  . rename_i cg bj U af
    simp only[aV] at fk;subst fk;obtain⟨op,g,g5,aB,rfl,aw⟩:=NN U;obtain⟨ao,aGs⟩:=A7 xv;have iV:aF[k]? =some o:=by simpa using ao
    have bq:=fun s M a w Γ=>Xn gq os (k+1) bj s M a w Γ aGs af;have run:∀aM,cA w0 Γ0 n w Γ aM M a->wpOp P false op o.dst (DK P o.type) aM M (fun aM ah=>wpOps P false bj aM ah K)->Region.wanted o (yielded aF a.tmps)=true->Go.wpOps P aF Q (k::List.range' (k+1) os.length) a w:=by
     intro aM cm hw tP;simp only[Go.wpOps,iV,tP,if_true];exact .inl (Xm cm g5 aw hw (fun aLm ah du w' Γ' aG1 iR=>bq aLm ah du w' Γ' aG1 iR))
    have skip:∀aM,cA w0 Γ0 n w Γ aM M a->wpOps P false bj (bA aM o.dst (.tuple [])) M K->Region.wanted o (yielded aF a.tmps)=false->Go.wpOps P aF Q (k::List.range' (k+1) os.length) a w:=by
     intro aM cm hw tP;simp only[Go.wpOps,iV,tP,i_,if_false];exact bq _ _ _ _ _ (cm.put VP aw) hw
    rw[dz,List.range'_succ];cases fD:o.guard with
    |none=>
     rw[fD] at aB;simp only[yd,aV] at aB;subst aB;simp only[wpOps] at fg;exact run s bh fg (by simp[Region.wanted,fD])
    |some np=>
     obtain⟨j,gN⟩:=np;rw[fD] at aB;simp only[yd,dJ] at aB;obtain⟨d,jg,rfl⟩:=aB;simp only[wpOps] at fg;have rj:=bh.gM d;split at fg
     . rename_i b aj
       rw[aj] at rj;have rm:=qs rj rfl;have aD:=Xr jg bh.size rm;have oa:Region.wanted o (yielded aF a.tmps)=(b==gN):=by simp[Region.wanted,fD,aD]
       have ny:∀c,b=c->cA w0 Γ0 n w Γ (eK s d (.bool c)) M a:=fun c ar=>⟨bh.fY,Wl bh.gM (by rw[aj,ar]),bh.size,bh.defers,bh.ext⟩;cases gN with
       |true=>
        cases b with
        |true=>exact run _ (ny true rfl) fg (by rw[oa];rfl)
        |false=>exact skip _ (ny false rfl) fg (by rw[oa];rfl)
       |false=>
        cases b with
        |true=>exact skip _ (ny true rfl) fg (by rw[oa];rfl)
        |false=>exact run _ (ny false rfl) fg (by rw[oa];rfl)
     . rename_i aj
       rw[aj] at rj;have rm:a.tmps.getD d Go.undef=.tuple #[]:=by
        generalize a.tmps.getD d Go.undef=q at rj;cases rj with
        |tuple _ bl ag=>
         have:bl=#[]:=Array.size_eq_zero_iff.1 (by simpa using ag);rw[this]
       have aD:=Xs jg bh.size rm;exact skip s bh fg (by simp[Region.wanted,fD,aD])
     . exact fg.elim
  . cases fk
end
end Go.aQ
namespace Go.aQ
open Go.RowKit (Below)
theorem oP{a b:Nat}:il a b=true↔a<b:=by rw[Nat.blt_eq]
section
variable{s ds:aH}
theorem dU{x:aU}(h:∀t∈x.cK,aY s t=aY ds t):aN s x=aN ds x:=by
 cases x with
 |tmp t=>exact h t (by simp[aU.cK])
 |const v=>rfl
theorem y8{x:Option aU}(h:∀t∈xZ x,aY s t=aY ds t):eH s x=eH ds x:=by
 cases x with
 |none=>rfl
 |some x=>simp only[eH,dU (x:=x) h]
theorem wV:∀{xs:List aU},(∀t∈xY xs,aY s t=aY ds t)->e9 s xs=e9 ds xs
 |[],_=>rfl
 |x::xs,h=>by
  simp only[e9,dU (x:=x) fun t aT=>h t (by simp[xY,aT]),wV (xs:=xs) fun t aT=>h t (by simp[xY,aT])]
theorem Fk:∀{xs:List (Nat×Nat×aU)},(∀t∈x0 xs,aY s t=aY ds t)->j8 s xs=j8 ds xs
 |[],_=>rfl
 |(a,b,x)::xs,h=>by
  simp only[j8,dU (x:=x) fun t aT=>h t (by simp[x0,aT]),Fk (xs:=xs) fun t aT=>h t (by simp[x0,aT])]
theorem VE{o:dK}{M:Mem}(h:∀t∈o.cK,aY s t=aY ds t):hL o s M=hL o ds M:=by
 cases o<;>simp only[hL]<;>simp only[dK.cK,g_] at h
 case nJ x=>rw[dU h]
 case pick c a b=>rw[dU (x:=c) fun t aT=>h t (.inl aT),dU (x:=a) fun t aT=>h t (.inr (.inl aT)),dU (x:=b) fun t aT=>h t (.inr (.inr aT))]
 case build z cP=>rw[Fk h]
 case buildSlice z a b cP=>rw[Fk h]
 case load n bX a=>rw[dU h]
 case nilCheck x=>rw[dU h]
 case bin op k x y=>rw[dU (x:=x) fun t aT=>h t (.inl aT),dU (x:=y) fun t aT=>h t (.inr aT)]
 case un op x=>rw[dU h]
 case conv k x=>rw[dU h]
 case td x=>rw[dU h]
 case qT x=>rw[dU h]
 case my f da=>rw[wV h]
 case slice sz x lo hi mx=>rw[dU (x:=x) fun t aT=>h t (.inl aT),y8 (x:=lo) fun t aT=>h t (.inr (.inl aT)),y8 (x:=hi) fun t aT=>h t (.inr (.inr (.inl aT))),y8 (x:=mx) fun t aT=>h t (.inr (.inr (.inr aT)))]
 case ur x lo hi=>rw[dU (x:=x) fun t aT=>h t (.inl aT),y8 (x:=lo) fun t aT=>h t (.inr (.inl aT)),y8 (x:=hi) fun t aT=>h t (.inr (.inr aT))]
 case fieldAddr off x=>rw[dU h]
 case field a b c x=>rw[dU h]
 case f_ a b x i=>rw[dU (x:=x) fun t aT=>h t (.inl aT),dU (x:=i) fun t aT=>h t (.inr aT)]
 case mr a x i=>rw[dU (x:=x) fun t aT=>h t (.inl aT),dU (x:=i) fun t aT=>h t (.inr aT)]
 case pn x i=>rw[dU (x:=x) fun t aT=>h t (.inl aT),dU (x:=i) fun t aT=>h t (.inr aT)]
 case tV a b c x i=>rw[dU (x:=x) fun t aT=>h t (.inl aT),dU (x:=i) fun t aT=>h t (.inr aT)]
 case sy x=>rw[dU h]
 case nE x=>rw[dU h]
 case nI mx x y=>rw[dU (x:=x) fun t aT=>h t (.inl aT),dU (x:=y) fun t aT=>h t (.inr aT)]
 case extract x i=>rw[dU h]
 case lookup c z a b m k=>rw[dU (x:=m) fun t aT=>h t (.inl aT),dU (x:=k) fun t aT=>h t (.inr aT)]
end
section
variable{P:Program}{w0 w:World}{Γ0 Γ:Env}{M:Mem}{s:aH}{a:Act}{n:Nat}
theorem vU{dst:Option Nat}{bx:Bool}{v:V}{K:aH->Prop}:kC s dst bx v K↔(bx=true->∃b,v=.bool b)/\K (bA s dst v):=by
 cases bx with
 |false=>simp[kC]
 |true=>
  constructor
  . intro h
    refine⟨fun _=>?_,VH h⟩;simp only[kC,s3] at h;split at h
    . rename_i b aj;simp only[aV] at aj;exact⟨b,aj⟩
    . exact h.elim
  . rintro⟨h,ao⟩
    obtain⟨b,rfl⟩:=h rfl;exact ao
theorem yB{q:Bool}{op:dK}{dst:Option Nat}{bx:Bool}{K:aH->Mem->Prop}(hm:op.hl=false)(ar:op.jz=false):
 wpOp P q op dst bx s M K↔∃v,hL op s M=some v/\(bx=true->∃b,v=.bool b)/\K (bA s dst v) M:=by
 have e:wpOp P q op dst bx s M K=(match bx with
  |true=>s3 (hL op s M) (fun b=>K (bA s dst (.bool b)) M)
  |false=>lL (hL op s M) (fun v=>K (bA s dst v) M)):=by
  cases op<;>first|rfl|(simp[dK.jz] at ar;done)|(simp[dK.hl] at hm;done)
 rw[e];cases bx with
 |true=>
  simp only;constructor
  . intro h
    unfold s3 at h;split at h
    . rename_i b aj;exact⟨_,aj,fun _=>⟨b,rfl⟩,h⟩
    . exact h.elim
  . rintro⟨v,aq,aj,ao⟩
    obtain⟨b,rfl⟩:=aj trivial;rw[aq];exact ao
 |false=>
  simp only;constructor
  . intro h
    unfold lL at h;split at h
    . rename_i v aq;exact⟨_,aq,(fun e=>by cases e),h⟩
    . exact h.elim
  . rintro⟨v,aq,_,ao⟩
    rw[aq];exact ao
def kO(r:aH)(M:Mem)(aM:aH)(ah:Mem):Prop:=(∀t,aY aM t=aY r t)/\ah=M
def sY(P:Program)(op:dK)(dst:Option Nat)(bx:Bool)(s r:aH)(M:Mem)(v:V):Prop:=
 wpOp P false op dst bx s M (kO (bA r dst v) M)
theorem g6(dst:Option Nat)(x:V)(t:Nat):aY (bA s dst x) t=if dst=some t then x else aY s t:=by
 cases dst with
 |none=>simp[bA]
 |some d=>
  simp only[bA,l5,aV];by_cases h:t=d
  . simp[h]
  . rw[if_neg h,if_neg (gi h)]
theorem JF{dst:Option Nat}{r ds r2:aH}{v dV:V}(h:∀t,aY (bA s dst dV) t=aY (bA r dst v) t)(af:∀t,aY ds t=aY r2 t):∀t,aY (bA ds dst dV) t=aY (bA r2 dst v) t:=by
 intro t;have:=h t;rw[g6,g6] at this⊢;split
 . rename_i aw;rw[if_pos aw,if_pos aw] at this;exact this
 . exact af t
theorem sY.move{op:dK}{dst:Option Nat}{bx:Bool}{r ds r2:aH}{v:V}(hm:op.hl=false)(h:sY P op dst bx s r M v)(ag:∀t∈op.cK,aY s t=aY ds t)(af:∀t,aY ds t=aY r2 t):sY P op dst bx ds r2 M v:=by
 unfold sY at*;cases ar:op.jz with
 |false=>
  rw[yB hm ar] at*;obtain⟨dV,U,aj,ay,_⟩:=h;exact⟨dV,by rw[<-VE ag];exact U,aj,JF ay af,rfl⟩
 |true=>
  have key:∀(f:Nat)(args:List V),oD P false f args M (fun dV ah=>kC s dst bx dV (fun aM=>kO (bA r dst v) M aM ah))->oD P false f args M (fun dV ah=>kC ds dst bx dV (fun aM=>kO (bA r2 dst v) M aM ah)):=fun f args h=>
   cj.mono h fun dV ah ax=>by
    rw[vU] at ax⊢;exact⟨ax.1,JF ax.2.1 af,ax.2.2⟩
  cases op<;>simp only[dK.jz,i_] at ar
  case call f args=>
   simp only[dK.cK] at ag;have h:oD P false f (e9 s args) M _:=h;rw[wV ag] at h;exact key _ _ h
  case hd ju args=>
   simp only[dK.cK,g_] at ag;have h:mE P false (aN s ju) (e9 s args) M _:=h;rw[wV (xs:=args) fun t aT=>ag t (.inr aT),dU (x:=ju) fun t aT=>ag t (.inl aT)] at h;show mE P false (aN ds ju) (e9 ds args) M _;unfold mE at h⊢;split at h
   . exact key _ _ h
   . exact key _ _ h
   . exact h.elim
theorem Xl{op:dK}{dst:Option Nat}{bx:Bool}{K:aH->Mem->Prop}(hm:op.hl=false)(h:wpOp P true op dst bx s M K):∃v,sY P op dst bx s s M v/\K (bA s dst v) M:=by
 cases ar:op.jz with
 |false=>
  rw[yB hm ar] at h;obtain⟨v,U,aj,ao⟩:=h;refine⟨v,?_,ao⟩;unfold sY;rw[yB hm ar];exact⟨v,U,aj,fun _=>rfl,rfl⟩
 |true=>
  have key:∀(f:Nat)(args:List V),oD P true f args M (fun v ah=>kC s dst bx v (fun aM=>K aM ah))->∃v,oD P false f args M (fun dV ah=>kC s dst bx dV (fun aM=>kO (bA s dst v) M aM ah))/\K (bA s dst v) M:=by
   rintro f args ⟨v,U,af⟩;rw[vU] at af;refine⟨v,cj.mono U ?_,af.2⟩;rintro x ah ⟨rfl,rfl⟩;rw[vU];exact⟨af.1,fun _=>rfl,rfl⟩
  cases op<;>simp only[dK.jz,i_] at ar
  case call f args=>exact key f _ h
  case hd ju args=>
   have h:mE P true (aN s ju) (e9 s args) M _:=h;unfold mE at h;split at h
   . rename_i f da aq
     obtain⟨v,U,af⟩:=key _ _ h;exact⟨v,(by show mE P false (aN s ju) (e9 s args) M _;unfold mE;rw[aq];exact U),af⟩
   . rename_i f da aq
     obtain⟨v,U,af⟩:=key _ _ h;exact⟨v,(by show mE P false (aN s ju) (e9 s args) M _;unfold mE;rw[aq];exact U),af⟩
   . exact h.elim
def gj(P:Program)(o:bt)(s:aH)(M:Mem)(v:V):Prop:=hr P false o s M (kO (bA s o.dst v) M)
theorem yl{g:Nat}{x:V}(h:aY s g=x)(t:Nat):aY (eK s g x) t=aY s t:=by
 rw[l5];split
 . rename_i e;rw[e,h]
 . rfl
theorem N7{r:aH}(h:∀t,aY s t=aY r t)(dst:Option Nat)(x:V)(t:Nat):aY (bA s dst x) t=aY (bA r dst x) t:=by
 rw[g6,g6,h t]
theorem gj.move{o:bt}{ds:aH}{v:V}(hm:o.op.hl=false)(h:gj P o s M v)(ag:∀t∈o.cK,aY s t=aY ds t):gj P o ds M v:=by
 obtain⟨dst,op,bx,g⟩:=o;cases g with
 |none=>exact sY.move (r:=s) hm h ag (fun _=>rfl)
 |some np=>
  obtain⟨g,gN⟩:=np;have aB:aY s g=aY ds g:=ag g (by simp[bt.cK]);have ei:∀t∈op.cK,aY s t=aY ds t:=fun t aT=>ag t (by simp[bt.cK,aT]);unfold gj hr at h⊢;simp only at h⊢;rw[<-aB];split at h
  . rename_i b aj
    have skip:∀c,aY s g=.bool c->kO (bA s dst v) M (bA (eK s g (.bool c)) dst (.tuple [])) M->kO (bA ds dst v) M (bA (eK ds g (.bool c)) dst (.tuple [])) M:=fun c ar h=>
     ⟨JF h.1 (fun t=>yl (by rw[<-aB,ar]) t),rfl⟩;have run:∀c,aY s g=.bool c->wpOp P false op dst bx (eK s g (.bool c)) M (kO (bA s dst v) M)->wpOp P false op dst bx (eK ds g (.bool c)) M (kO (bA ds dst v) M):=fun c ar h=>
     sY.move (r:=s) (r2:=ds) hm h (fun t aT=>by rw[yl ar,yl (by rw[<-aB,ar])];exact ei t aT) (fun t=>yl (by rw[<-aB,ar]) t);cases gN<;>cases b
    . exact run _ aj h
    . exact skip _ aj h
    . exact skip _ aj h
    . exact run _ aj h
  . exact⟨JF h.1 (fun _=>rfl),rfl⟩
  . exact h.elim
theorem OC{o:bt}{K:aH->Mem->Prop}(hm:o.op.hl=false)(h:hr P true o s M K):∃v aM,gj P o s M v/\(∀t,aY aM t=aY (bA s o.dst v) t)/\K aM M:=by
 obtain⟨dst,op,bx,g⟩:=o;cases g with
 |none=>
  obtain⟨v,U,af⟩:=Xl hm h;exact⟨v,_,U,fun _=>rfl,af⟩
 |some np=>
  obtain⟨g,gN⟩:=np;unfold hr at h;simp only at h;split at h
  . rename_i b aj
    have run:∀c,aY s g=.bool c->wpOp P true op dst bx (eK s g (.bool c)) M K->∃v aM,wpOp P false op dst bx (eK s g (.bool c)) M (kO (bA s dst v) M)/\(∀t,aY aM t=aY (bA s dst v) t)/\K aM M:=fun c ar h=>by
     obtain⟨v,U,af⟩:=Xl hm h;exact⟨v,_,sY.move (r:=eK s g (.bool c)) (r2:=s) hm U (fun _ _=>rfl) (fun t=>yl ar t),N7 (fun t=>yl ar t) _ _,af⟩
    have fin:∀v,hr P false ⟨dst,op,bx,some (g,gN)⟩ s M (kO (bA s dst v) M)->gj P ⟨dst,op,bx,some (g,gN)⟩ s M v:=fun _ h=>h;have skip:∀c,aY s g=.bool c->∀t,aY (bA (eK s g (.bool c)) dst (.tuple [])) t=aY (bA s dst (.tuple [])) t:=fun c ar=>N7 (fun t=>yl ar t) _ _;cases gN<;>cases b<;>simp only[jZ] at h
    . obtain⟨v,aM,U,af,ay⟩:=run _ aj h
      exact⟨v,aM,fin v (by simp only[hr,aj,jZ];exact U),af,ay⟩
    . exact⟨.tuple [],_,fin _ (by simp only[hr,aj,jZ];exact⟨skip _ aj,rfl⟩),skip _ aj,h⟩
    . exact⟨.tuple [],_,fin _ (by simp only[hr,aj,jZ];exact⟨skip _ aj,rfl⟩),skip _ aj,h⟩
    . obtain⟨v,aM,U,af,ay⟩:=run _ aj h
      exact⟨v,aM,fin v (by simp only[hr,aj,jZ];exact U),af,ay⟩
  . rename_i aj
    refine⟨.tuple [],_,?_,fun _=>rfl,h⟩;show hr P false ⟨dst,op,bx,some (g,gN)⟩ s M _;simp only[hr,aj];exact⟨fun _=>rfl,rfl⟩
  . exact h.elim
theorem wh{aF:Array Oper}{i:Nat}{o:Oper}{cg:bt}{mu:List Nat}(az:aF[i]? =some o)(fk:sL P n mu aF i o=some cg)(bh:cA w0 Γ0 n w Γ s M a){K:aH->Mem->Prop}(fg:hr P false cg s M K)
 {next:Act->World->Prop}{Q:Exit->Act->World->Prop}(ao:∀aM ah du w' Γ',cA w0 Γ0 n w' Γ' aM ah du->K aM ah->next du w'):Go.wpOp P aF Q i next a w:=by
 obtain⟨op,g,g5,aB,rfl,aw⟩:=NN fk;have run:∀aM,cA w0 Γ0 n w Γ aM M a->wpOp P false op o.dst (DK P o.type) aM M K->Region.wanted o (yielded aF a.tmps)=true->Go.wpOp P aF Q i next a w:=by
  intro aM cm hw tP;unfold Go.wpOp;simp only[az,tP,if_true];exact .inl (Xm cm g5 aw hw ao)
 have skip:∀aM,cA w0 Γ0 n w Γ aM M a->K (bA aM o.dst (.tuple [])) M->Region.wanted o (yielded aF a.tmps)=false->Go.wpOp P aF Q i next a w:=by
  intro aM cm hw tP;unfold Go.wpOp;simp only[az,tP,i_,if_false];exact ao _ _ _ _ _ (cm.put VP aw) hw
 cases fD:o.guard with
 |none=>
  rw[fD] at aB;simp only[yd,aV] at aB;subst aB;exact run s bh fg (by simp[Region.wanted,fD])
 |some np=>
  obtain⟨j,gN⟩:=np;rw[fD] at aB;simp only[yd,dJ] at aB;obtain⟨d,jg,rfl⟩:=aB;simp only[hr] at fg;have rj:=bh.gM d;split at fg
  . rename_i b aj
    rw[aj] at rj;have rm:=qs rj rfl;have aD:=Xr jg bh.size rm;have oa:Region.wanted o (yielded aF a.tmps)=(b==gN):=by simp[Region.wanted,fD,aD]
    have ny:∀c,b=c->cA w0 Γ0 n w Γ (eK s d (.bool c)) M a:=fun c ar=>⟨bh.fY,Wl bh.gM (by rw[aj,ar]),bh.size,bh.defers,bh.ext⟩;cases gN with
    |true=>
     cases b with
     |true=>exact run _ (ny true rfl) fg (by rw[oa];rfl)
     |false=>exact skip _ (ny false rfl) fg (by rw[oa];rfl)
    |false=>
     cases b with
     |true=>exact skip _ (ny true rfl) fg (by rw[oa];rfl)
     |false=>exact run _ (ny false rfl) fg (by rw[oa];rfl)
  . rename_i aj
    rw[aj] at rj;have rm:a.tmps.getD d Go.undef=.tuple #[]:=by
     generalize a.tmps.getD d Go.undef=q at rj;cases rj with
     |tuple _ bl ag=>
      have:bl=#[]:=Array.size_eq_zero_iff.1 (by simpa using ag);rw[this]
    have aD:=Xs jg bh.size rm;exact skip s bh fg (by simp[Region.wanted,fD,aD])
  . exact fg.elim
def oM(P:Program)(M:Mem):List bt->List V->aH->aH->Prop
 |o::os,v::vs,s,c9=>gj P o s M v/\o.op.hl=false/\oM P M os vs (bA s o.dst v) c9
 |[],[],s,c9=>∀t,aY c9 t=aY s t
 |_,_,_,_=>False
theorem oM.move:∀{os:List bt}{vs:List V}{s ds c9:aH},oM P M os vs s c9->(∀t,aY s t=aY ds t)->oM P M os vs ds c9
 |o::os,v::vs,s,ds,c9,h,he=>⟨h.1.move h.2.1 (fun t _=>he t),h.2.1,oM.move h.2.2 (fun t=>N7 he _ _ t)⟩
 |[],[],s,ds,c9,h,he=>fun t=>(h t).trans (he t)
 |o::os,[],_,_,_,h,_=>h.elim
 |[],v::vs,_,_,_,h,_=>h.elim
theorem Nl{K:aH->Mem->Prop}:∀(os:List bt)(dN:List Bool)(s:aH),os.length=dN.length->t7 dN os=true->uw P os dN s M K->
 ∃(c:Nat)(vs:List V)(c9:aH),c<=os.length/\vs.length=c/\oM P M (os.take c) vs s c9/\
  ((c=os.length/\K c9 M)∨(∃o,os[c]? =some o/\dN[c]? =some false/\hr P false o c9 M (fun aM ah=>uw P (os.drop (c+1)) (dN.drop (c+1)) aM ah K)))
 |[],[],s,_,_,h=>⟨0,[],s,cF _,rfl,fun _=>rfl,.inl ⟨rfl,h⟩⟩
 |o::os,false::dN,s,_,_,h=>⟨0,[],s,fG _,rfl,fun _=>rfl,.inr ⟨o,rfl,rfl,h⟩⟩
 |o::os,true::dN,s,ag,hm,h=>by
  simp only[t7,Bool.not_true,Bool.false_or,b_,lH] at hm;obtain⟨v,aM,U,af,ay⟩:=OC hm.1 h;obtain⟨c,vs,c9,ar,aq,al,ao⟩:=Nl os dN aM (by simpa using ag) hm.2 ay;refine⟨c+1,v::vs,c9,by simp;omega,by simp[aq],⟨U,hm.1,al.move af⟩,?_⟩;rcases ao with⟨rfl,ao⟩|⟨o',be,bv,b7⟩
  . exact .inl ⟨rfl,ao⟩
  . exact .inr ⟨o',by simpa using be,by simpa using bv,by simpa using b7⟩
 |[],q::dN,s,ag,_,_=>by simp at ag
 |o::os,[],s,ag,_,_=>by simp at ag
def iL(L:Nat->Bool):Nat->List bt->List V->aH->aH
 |j,o::os,v::vs,s=>iL L (j+1) os vs (bif L j then bA s o.dst v else s)
 |_,_,_,s=>s
theorem EP{L L':Nat->Bool}{t:Nat}:∀(os:List bt)(vs:List V)(j:Nat)(s aM:aH),aY s t=aY aM t->(∀i o,os[i]? =some o->o.dst=some t->L (j+i)=L' (j+i))->aY (iL L j os vs s) t=aY (iL L' j os vs aM) t
 |[],_,_,s,aM,h,_=>by simpa[iL] using h
 |o::os,[],_,s,aM,h,_=>by simpa[iL] using h
 |o::os,v::vs,j,s,aM,h,dh=>by
  simp only[iL];refine EP os vs (j+1) _ _ ?_ (fun i o' hi aw=>by have:=dh (i+1) o' (by simpa using hi) aw;rwa [<-kM,Nat.add_right_comm] at this);by_cases aw:o.dst=some t
  . have:=dh 0 o rfl aw
    rw[iJ] at this;rw[this];cases L' j
    . exact h
    . simp only[cond_true,g6,aw,if_true]
  . cases L j<;>cases L' j<;>simp only[cond_true,cond_false,g6,if_neg aw]<;>exact h
theorem Pm{L:Nat->Bool}{t:Nat}{o:bt}{v:V}:∀(os:List bt)(vs:List V)(j i:Nat)(s:aH),os[i]? =some o->vs[i]? =some v->o.dst=some t->L (j+i)=true->(∀k o',i<k->os[k]? =some o'->o'.dst=some t->L (j+k)=false)->aY (iL L j os vs s) t=v
 |[],_,_,i,_,h,_,_,_,_=>by simp at h
 |o'::os,[],_,i,_,_,h,_,_,_=>by simp at h
 |o'::os,dV::vs,j,0,s,h,aq,aw,dh,ao=>by
  simp only[ja,aV] at h aq;subst h;subst aq;simp only[iL];rw[iJ] at dh;rw[dh];have:=EP (L:=L) (L':=fun _=>false) (t:=t) os vs (j+1) (bA s o'.dst dV) (bA s o'.dst dV) rfl (fun i x hi ab=>by have:=ao (i+1) x (by omega) (by simpa using hi) ab;rwa [<-kM,Nat.add_right_comm] at this);simp only[cond_true,this];have none:∀(os:List bt)(vs:List V)(j:Nat)(s:aH),iL (fun _=>false) j os vs s=s:=by
   intro os;induction os with
   |nil=>intro vs j s;simp[iL]
   |cons o os bq=>
    intro vs j s;cases vs with
    |nil=>simp[iL]
    |cons v vs=>simp only[iL,cond_false,bq]
  rw[none,g6,if_pos aw]
 |o'::os,dV::vs,j,i+1,s,h,aq,aw,dh,ao=>by
  simp only[iL];exact Pm os vs (j+1) i _ (by simpa using h) (by simpa using aq) aw (by rwa [Nat.add_right_comm,kM]) (fun k x gx ab sx=>by have:=ao (k+1) x (by omega) (by simpa using ab) sx;rwa [<-kM,Nat.add_right_comm] at this)
theorem EQ:∀(os:List bt)(vs:List V)(j:Nat)(s:aH)(t:Nat)(L:Nat->Bool),(∀i,i<os.length->L (j+i)=false)->aY (iL L j os vs s) t=aY s t
 |[],_,_,s,t,_,_=>by simp[iL]
 |o::os,[],_,s,t,_,_=>by simp[iL]
 |o::os,v::vs,j,s,t,L,h=>by
  simp only[iL];rw[EQ os vs (j+1) _ t L (fun i hi=>by have:=h (i+1) (by simp;omega);rwa [<-kM,Nat.add_right_comm] at this)];have:=h 0 (by simp);rw[iJ] at this;rw[this];rfl
theorem oM.at{c9:aH}:∀{os:List bt}{vs:List V}{s:aH},oM P M os vs s c9->∀(i j:Nat)(o:bt),os[i]? =some o->∃v,vs[i]? =some v/\o.op.hl=false/\∃Av,gj P o Av M v/\∀t,aY (iL (fun k=>decide (k<j+i)) j os vs s) t=aY Av t
 |o::os,v::vs,s,h,0,j,o',az=>by
  simp only[ja,aV] at az;subst az;refine⟨v,rfl,h.2.1,s,h.1,fun t=>?_⟩;rw[EQ];intro i _;simp
 |o::os,v::vs,s,h,i+1,j,o',az=>by
  obtain⟨dV,U,af,Av,ay,be⟩:=oM.at h.2.2 i (j+1) o' (by simpa using az);refine⟨dV,by simpa using U,af,Av,ay,fun t=>?_⟩;rw[<-be t];simp only[iL];have:decide (j<j+(i+1))=true:=by simp
  rw[this];have e:(fun k=>decide (k<j+(i+1)))=fun k=>decide (k<j+1+i):=by funext k;congr 1;rw[kM,Nat.add_comm 1 i]
  rw[e];rfl
 |[],[],s,h,i,j,o',az=>by simp at az
 |[],v::vs,_,h,_,_,_,_=>h.elim
 |o::os,[],_,h,_,_,_,_=>h.elim
theorem oM.fin{c9:aH}:∀{os:List bt}{vs:List V}{s:aH},oM P M os vs s c9->∀(j:Nat)(L:Nat->Bool),(∀i,i<os.length->L (j+i)=true)->∀t,aY (iL L j os vs s) t=aY c9 t
 |o::os,v::vs,s,h,j,L,dh,t=>by
  simp only[iL];have:=dh 0 (by simp);rw[iJ] at this;rw[this];exact oM.fin h.2.2 (j+1) L (fun i hi=>by have:=dh (i+1) (by simp;omega);rwa [<-kM,Nat.add_right_comm] at this) t
 |[],[],s,h,j,L,_,t=>by simpa[iL] using(h t).symm
 |[],v::vs,_,h,_,_,_,_=>h.elim
 |o::os,[],_,h,_,_,_,_=>h.elim
theorem aI8{acc:List Nat}{o:Oper}{j:Nat}(h:(DW acc o).testBit j=true):∃e∈o.after,Region.binds .any e=true/\(e.on=j∨(acc.getD e.on 0).testBit j=true):=by
 have key:∀(l:List Edge)(s:Nat),(l.foldl (fun s e=>bif Region.binds .any e then(s|||2^e.on)|||acc.getD e.on 0 else s) s).testBit j=true->s.testBit j=true∨∃e∈l,Region.binds .any e=true/\(e.on=j∨(acc.getD e.on 0).testBit j=true):=by
  intro l;induction l with
  |nil=>intro s h;exact .inl h
  |cons e l bq=>
   intro s h;simp only[List.foldl_cons] at h;rcases bq _ h with U|⟨fm,tz,U⟩
   . cases aj:Region.binds .any e with
     |false=>simp only[aj,cond_false] at U;exact .inl U
     |true=>
      simp only[aj,cond_true,Nat.testBit_or,Bool.or_eq_true,Nat.testBit_two_pow,decide_eq_true_eq] at U;rcases U with(U|U)|U
      . exact .inl U
      . exact .inr ⟨e,by simp,aj,.inl U⟩
      . exact .inr ⟨e,by simp,aj,.inr U⟩
   . exact .inr ⟨fm,by simp[tz],U⟩
 rcases key _ 0 h with U|⟨e,he,U⟩
 . simp at U
 . exact⟨e,by simpa using he,U⟩
theorem KA:∀(os:List Oper)(acc:List Nat),(gv os acc).length=acc.length+os.length/\(∀i,i<acc.length->(gv os acc)[i]? =acc[i]?)/\∀i o,os[i]? =some o->(gv os acc)[acc.length+i]? =some (DW ((gv os acc).take (acc.length+i)) o)
 |[],acc=>⟨by simp[gv],fun _ _=>rfl,fun i o h=>by simp at h⟩
 |o::os,acc=>by
  obtain⟨U,af,ay⟩:=KA os (acc++[DW acc o]);simp only[gv];refine⟨by rw[U];simp;omega,fun i hi=>by rw[af i (by simp;omega),gh hi],fun i o' az=>?_⟩;cases i with
  |zero=>
   simp only[ja,aV] at az;subst az;rw[iJ,af acc.length (by simp)];have e:(gv os (acc++[DW acc o])).take acc.length=acc:=by
    refine oF fun i=>?_;by_cases hi:i<acc.length
    . rw[hs hi,af i (by simp;omega),gh hi]
    . rw[lJ (by simp;omega),lJ (by omega)]
   rw[e];simp
  |succ i=>
   have:=ay i o' (by simpa using az);simp only[dT,dz,gZ] at this;rw[show acc.length+(0+1)+i=acc.length+(i+1) from by omega] at this;exact this
def is(aF:Array Oper)(j k:Nat):Prop:=((gv aF.toList []).getD k 0).testBit j=true
theorem n1:∀(os:List Oper)(k:Nat),te k os=true->∀i o e,os[i]? =some o->e∈o.after->Region.binds .any e=true->e.on<k+i
 |[],_,_,i,o,e,h,_,_=>by simp at h
 |o::os,k,bY,i,o',e,az,he,aj=>by
  simp only[te,b_] at bY;cases i with
  |zero=>
   simp only[ja,aV] at az;subst az;have:=List.all_eq_true.1 bY.1 e (by simpa using he);simp only[aj,Bool.not_true,Bool.false_or] at this;have:=oP.1 this;omega
  |succ i=>
   have:=n1 os (k+1) bY.2 i o' e (by simpa using az) he aj;omega
theorem r5{aF:Array Oper}(bY:te 0 aF.toList=true){L:Nat->Bool}(dh:∀k o,aF[k]? =some o->L k=true->∀e∈o.after,Region.binds .any e=true->L e.on=true):
 ∀(m k:Nat),k<m->∀o,aF[k]? =some o->(∀e∈o.after,Region.binds .any e=true->L e.on=true)->∀j,is aF j k->L j=true
 |0,k,ao,_,_,_,_,_=>absurd ao (fb k)
 |m+1,k,ao,o,az,al,j,ap=>by
  unfold is at ap;obtain⟨_,_,ay⟩:=KA aF.toList [];have He:=ay k o (by simpa using az);simp only[gZ,ev] at He;rw[List.getD_eq_getElem?_getD,He,Option.getD_some] at ap;obtain⟨e,he,aj,ap⟩:=aI8 ap;have bw:e.on<k:=by have:=n1 aF.toList 0 bY k o e (by simpa using az) he aj;omega
  have hle:=al e he aj;rcases ap with rfl|ap
  . exact hle
  . rw[List.getD_eq_getElem?_getD,hs bw,<-List.getD_eq_getElem?_getD] at ap
    have zy:k<aF.size:=(la.1 az).1;obtain⟨o',ee⟩:∃o',aF[e.on]? =some o':=⟨aF[e.on]'(by omega),by simp[show e.on<aF.size from by omega]⟩;exact r5 bY dh m e.on (by omega) o' ee (dh e.on o' ee hle) j ap
theorem z4{l:List Nat}{t:Nat}:nB l t=true↔t∈l:=by
 simp[nB,List.any_eq_true]
theorem lk{x y:bt}(h:x.r3 y=true):(∀d,x.dst=some d->d∉y.cK)/\(∀d,x.dst=some d->y.dst≠some d)/\(∀d,y.dst=some d->d∉x.cK):=by
 unfold bt.r3 at h;simp only[b_] at h;refine⟨fun d aw hm=>?_,fun d aw aD=>?_,fun d aw hm=>?_⟩
 . rw[aw] at h
   simp only[b_,lH] at h;rw[z4.2 hm] at h;simp at h
 . rw[aw,aD] at h
   simp at h
 . rw[aw] at h
   simp only[lH] at h;rw[z4.2 hm] at h;simp at h
theorem PG{b:Nat}{y:bt}:∀(xs:List bt)(i:Nat),EV b y i xs=true->∀k x,xs[k]? =some x->b.testBit (i+k)=true∨x.r3 y=true
 |[],_,_,k,x,h=>by simp at h
 |df::xs,i,h,k,x,ab=>by
  simp only[EV,b_,Bool.or_eq_true] at h;cases k with
  |zero=>simp only[ja,aV] at ab;subst ab;exact h.1
  |succ k=>have:=PG xs (i+1) h.2 k x (by simpa using ab);rwa [show i+(k+1)=i+1+k from by omega]
theorem PF{a_:List bt}:∀(js:List Nat)(bG:List bt)(j:Nat),j+bG.length=a_.length->js.length=bG.length->EU a_ js bG=true->∀k y i x,bG[k]? =some y->i<j+k->a_[i]? =some x->(js.getD k 0).testBit i=true∨x.r3 y=true
 |[],[],j,_,_,_,k,y,i,x,aD,_,_=>by simp at aD
 |b::js,g8::bG,j,ap,ag,h,k,y,i,x,aD,hi,ab=>by
  simp only[EU,b_] at h;cases k with
  |zero=>
   simp only[ja,aV] at aD;subst aD;have e:a_.length -bG.length -1=j:=by simp at ap;omega
   rw[e] at h;have:=PG _ _ h.1 i x (by rw[hs (by omega)];exact ab);simpa using this
  |succ k=>
   have:=PF js bG (j+1) (by simp at ap;omega) (by simpa using ag) h.2 k y i x (by simpa using aD) (by omega) ab;simpa using this
 |[],g8::bG,_,_,ag,_,_,_,_,_,_,_,_=>by simp at ag
 |b::js,[],_,_,ag,_,_,_,_,_,_,_,_=>by simp at ag
theorem Ll{k b:Nat}:∀(cs:List Nat)(i:Nat),Bl k b i cs=true->∀j c,cs[j]? =some c->(i+j<k->b.testBit (i+j)=true)/\(k<i+j->c.testBit k=true)
 |[],_,_,j,c,h=>by simp at h
 |c0::cs,i,h,j,c,ar=>by
  simp only[Bl,b_] at h;cases j with
  |zero=>
   simp only[ja,aV] at ar;subst ar;rw[iJ];refine⟨fun hi=>?_,fun hi=>?_⟩
   . have:il i k=true:=oP.2 hi
     simpa[this] using h.1
   . have U:il i k=false:=by
      cases aj:il i k with
      |false=>rfl
      |true=>have:=oP.1 aj;omega
     have af:il k i=true:=oP.2 hi;simpa[U,af] using h.1
  |succ j=>have:=Ll cs (i+1) h.2 j c (by simpa using ar);rwa [show i+(j+1)=i+1+j from by omega]
theorem U4{B:List Nat}:∀(js:List Nat)(os:List bt)(k:Nat),js.length=os.length->(sB B k js os).length=os.length/\∀i,(sB B k js os)[i]? =some false->∀b,js[i]? =some b->Bl (k+i) b 0 B=true
 |[],[],_,_=>⟨rfl,fun i h=>by simp[sB] at h⟩
 |b::js,o::os,k,ag=>by
  obtain⟨U,af⟩:=U4 (B:=B) js os (k+1) (by simpa using ag);refine⟨by simp[sB,U],fun i h iM aj=>?_⟩;cases i with
  |zero=>
   simp only[ja,aV] at aj;subst aj;simp only[sB,ja,aV,Bool.not_eq_false',b_] at h;simpa using h.2
  |succ i=>
   have:=af i (by simpa[sB] using h) iM (by simpa using aj);rwa [show k+(i+1)=k+1+i from by omega]
 |[],o::os,_,ag=>by simp at ag
 |b::js,[],_,ag=>by simp at ag
theorem Ed{mu:List Nat}{aF:Array Oper}:∀(os:List Oper)(k:Nat)(a_:List bt),pw P n mu aF k os=some a_->a_.length=os.length/\∀i o,os[i]? =some o->∃cg,a_[i]? =some cg/\sL P n mu aF (k+i) o=some cg
 |[],k,a_,h=>by
  simp only[pw,aV] at h;subst h;exact⟨rfl,fun i o h=>by simp at h⟩
 |o::os,k,a_,h=>by
  simp only[pw] at h;split at h
  . rename_i a bj U af
    simp only[aV] at h;subst h;obtain⟨ay,be⟩:=Ed os (k+1) bj af;refine⟨by simp[ay],fun i o' az=>?_⟩;cases i with
    |zero=>simp only[ja,aV] at az;subst az;exact⟨a,rfl,U⟩
    |succ i=>
     obtain⟨cg,bv,b7⟩:=be i o' (by simpa using az);exact⟨cg,by simpa using bv,by rwa [show k+(i+1)=k+1+i from by omega]⟩
  . cases h
theorem A6{p p':Nat->Bool}{i:Nat}(ax:p i=true)(TR:p' i=false)(ak:∀j,j≠i->p' j=p j):∀m,(c1 m).countP p=(c1 m).countP p'+if i<m then 1 else 0
 |0=>by simp
 |m+1=>by
  have bq:=A6 ax TR ak m;have e:∀q:Nat->Bool,(c1 (m+1)).countP q=(c1 m).countP q+if q m=true then 1 else 0:=fun q=>by
   rw[List.range_succ,List.countP_append];simp[List.countP_cons]
  rw[e p,e p',bq];by_cases hm:m=i
  . subst hm
    rw[if_neg (Nat.lt_irrefl m),if_pos ax,if_neg (by rw[TR];simp),if_pos (Nat.lt_succ_self m)]
  . rw[ak m hm]
    by_cases h:i<m
    . rw[if_pos h,if_pos (show i<m+1 by omega)];omega
    . rw[if_neg h,if_neg (show¬i<m+1 by omega)];omega
theorem aJg{id:Nat}{aF:Array Oper}{a_:List bt}{dN:List Bool}{mu:List Nat}{Q:Exit->Act->World->Prop}{K:aH->Mem->Prop}(C1:P.follows .mixedOrders=true)(fk:pw P n mu aF 0 aF.toList=some a_)(C0:Jd aF a_=some dN)
 (vr:cA w0 Γ0 n w Γ s M a)(zJ:uw P a_ dN s M K)(gq:∀aM ah du w' Γ',cA w0 Γ0 n w' Γ' aM ah du->K aM ah->Q .normal du w'):(Code.region id aF true).wp P Q a w:=by
 obtain⟨hlen,gr⟩:=Ed _ _ _ fk;simp only[ev] at gr;have Mn:a_.length=aF.size:=by simpa using hlen
 unfold Jd at C0;simp only at C0;obtain⟨ar,rfl⟩:=fe C0;simp only[b_] at ar;obtain⟨⟨⟨⟨jw,eU⟩,vi⟩,_⟩,_⟩:=ar;obtain⟨aDT,_,_⟩:=KA aF.toList [];simp only[gZ,ev,Array.length_toList] at aDT;obtain⟨C8,aGE⟩:=U4 (B:=gv aF.toList []) (gv aF.toList []) a_ 0 (by omega);have nv:∀i,i<aF.size->∃o cg,aF[i]? =some o/\a_[i]? =some cg/\sL P n mu aF i o=some cg:=fun i hi=>by
  obtain⟨cg,U,af⟩:=gr i aF[i] (by simp[hi]);exact⟨_,cg,by simp[hi],U,af⟩
 have iS:∀i k x y,i<k->a_[i]? =some x->a_[k]? =some y->is aF i k∨x.r3 y=true:=fun i k x y iU ab aD=>by
  have:=PF (a_:=a_) (gv aF.toList []) a_ 0 (by omega) (by omega) eU k y i x aD (by omega) ab;exact this
 have aE5:∀m,m<aF.size->(sB (gv aF.toList []) 0 (gv aF.toList []) a_)[m]? =some false->(∀i,i<m->is aF i m)/\(∀i,m<i->i<aF.size->is aF m i):=fun m hm aG=>by
  have aj:(gv aF.toList [])[m]? =some ((gv aF.toList []).getD m 0):=by
   rw[List.getD_eq_getElem?_getD,gd (by omega)];rfl
  have:=aGE m aG _ aj;rw[ev] at this;refine⟨fun i hi=>?_,fun i hi ey=>?_⟩
  . have U:=(Ll _ 0 this i _ (gd (by omega))).1 (by omega)
    rwa [ev] at U
  . have U:=(Ll _ 0 this i _ (gd (by omega))).2 (by omega)
    unfold is;rw[List.getD_eq_getElem?_getD,gd (by omega)];exact U
 generalize TV:sB (gv aF.toList []) 0 (gv aF.toList []) a_=dN at*;have aGb:∀k,t7 (dN.drop k) (a_.drop k)=true:=by
  intro k;have:∀(k:Nat)(dN:List Bool)(a_:List bt),t7 dN a_=true->t7 (dN.drop k) (a_.drop k)=true:=by
   intro k;induction k with
   |zero=>intro dN a_ h;exact h
   |succ k bq=>
    intro dN a_ h;cases dN with
    |nil=>cases a_<;>simp[t7]
    |cons q dN=>
     cases a_ with
     |nil=>simp only[List.drop_nil];cases(q::dN).drop (k+1)<;>rfl
     |cons o os=>
      simp only[t7,b_] at h;exact bq dN os h.2
  exact this k dN a_ vi
 have main:∀(fuel:Nat)(a8:Array Bool)(a:Act)(w:World)(Γ:Env)(aE c:Nat)(vs:List V)(s c9:aH)(M:Mem),
  (c1 aF.size).countP (fun i=>!a8.getD i true)<=fuel->a8.size=aF.size->
  (∀k o,aF[k]? =some o->a8.getD k true=true->∀e∈o.after,Region.binds .any e=true->a8.getD e.on true=true)->
  aE+c<=aF.size->(∀i,i<aE->a8.getD i true=true)->(∀i,aE+c<=i->i<aF.size->a8.getD i true=false)->
  vs.length=c->oM P M ((a_.drop aE).take c) vs s c9->
  ((aE+c=aF.size/\K c9 M)∨(∃o,a_[aE+c]? =some o/\dN[aE+c]? =some false/\hr P false o c9 M (fun aM ah=>uw P (a_.drop (aE+c+1)) (dN.drop (aE+c+1)) aM ah K)))->
  cA w0 Γ0 n w Γ (iL (fun i=>a8.getD i true) aE ((a_.drop aE).take c) vs s) M a->
  wpAny P .any aF Q fuel a8 a w:=by
  intro fuel;induction fuel with
  |zero=>
   intro a8 a w Γ aE c vs s c9 M mj f9 de TE h_ ex j_ co hh bh;have d9:∀i,i<aF.size->a8.getD i true=true:=fun i hi=>by
    have a4:(c1 aF.size).countP (fun i=>!a8.getD i true)=0:=by omega
    rw[List.countP_eq_zero] at a4;have:=a4 i (jY.2 hi);simpa using this
   have ri:Region.ready .any aF a8=[]:=by
    rw[List.eq_nil_iff_forall_not_mem];intro j ap;obtain⟨U,o,af,_⟩:=mem_ready.1 ap;rw[d9 j (la.1 af).1] at U;cases U
   have hm:aE+c=aF.size:=by
    rcases mG (aE+c) aF.size with bw|o5
    . have:=ex (aE+c) (cF _) bw
      rw[d9 _ bw] at this;cases this
    . omega
   rcases hh with⟨_,iR⟩|⟨o,az,_⟩
   . refine⟨ri,gq c9 M a w Γ ⟨bh.fY,fun t=>?_,bh.size,bh.defers,bh.ext⟩ iR⟩
     rw[<-co.fin aE (fun i=>a8.getD i true) (fun i hi=>d9 (aE+i) (by simp at hi;omega)) t];exact bh.gM t
   . have:=(bn.1 az).1
     omega
  |succ fuel bq=>
   intro a8 a w Γ aE c vs s c9 M mj f9 de TE h_ ex j_ co hh bh;have fD:∀i b iM,i<aF.size->a8.getD i b=a8.getD i iM:=fun i b iM hi=>by simp[f9,hi]
   have ns:∀i,i<aF.size->a8.getD i true=false->(c1 aF.size).countP (fun j=>!(a8.setIfInBounds i true).getD j true)<=fuel:=fun i hi hu=>by
    have:=A6 (p:=fun j=>!a8.getD j true) (p':=fun j=>!(a8.setIfInBounds i true).getD j true) (i:=i) (by simp only[hu];rfl) (by simp[f9,hi]) (fun j ap=>by simp only[getD_set_ne true (gi ap)]) aF.size;rw[if_pos hi] at this;omega
   have nr:∀i o,aF[i]? =some o->(∀e∈o.after,Region.binds .any e=true->a8.getD e.on false=true)->
    (∀k o,aF[k]? =some o->(a8.setIfInBounds i true).getD k true=true->∀e∈o.after,Region.binds .any e=true->(a8.setIfInBounds i true).getD e.on true=true):=fun i o az al k o' ee ao e he aj=>by
    have zy:k<aF.size:=(la.1 ee).1;have bw:e.on<aF.size:=by have:=n1 aF.toList 0 jw k o' e (by simpa using ee) he aj;omega
    have key:a8.getD e.on true=true->(a8.setIfInBounds i true).getD e.on true=true:=fun h=>by
     by_cases ra:i=e.on
     . subst ra;simp[f9,bw]
     . rw[getD_set_ne true ra];exact h
    by_cases gx:k=i
    . subst gx
      rw[az] at ee;simp only[aV] at ee;subst ee;exact key ((fD _ _ _ bw).trans (al e he aj))
    . rw[getD_set_ne true (gi gx)] at ao
      exact key (de k o' ee ao e he aj)
   refine⟨fun ri=>?_,fun i hi=>?_⟩
   .
    have d9:∀m i,i<m->i<aF.size->a8.getD i true=true:=by
     intro m;induction m with
     |zero=>intro i h;exact absurd h (fb i)
     |succ m xQ=>
      intro i xk hi;cases hu:a8.getD i true with
      |true=>rfl
      |false=>
       have al:i∈Region.ready .any aF a8:=mem_ready.2 ⟨hu,aF[i],by simp[hi],fun e he aj=>by
        have bw:e.on<i:=by have:=n1 aF.toList 0 jw i aF[i] e (by simp[hi]) he aj;omega
        exact(fD _ _ _ (by omega)).trans (xQ e.on (by omega) (by omega))⟩;rw[ri] at al;cases al
    have Tc:∀i,i<aF.size->a8.getD i true=true:=fun i hi=>d9 (i+1) i (by omega) hi;have hm:aE+c=aF.size:=by
     rcases mG (aE+c) aF.size with bw|o5
     . have:=ex (aE+c) (cF _) bw
       rw[Tc _ bw] at this;cases this
     . omega
    rcases hh with⟨_,iR⟩|⟨o,az,_⟩
    . refine gq c9 M a w Γ ⟨bh.fY,fun t=>?_,bh.size,bh.defers,bh.ext⟩ iR
      rw[<-co.fin aE (fun i=>a8.getD i true) (fun i hi=>Tc (aE+i) (by simp at hi;omega)) t];exact bh.gM t
    . have:=(bn.1 az).1
      omega
   . obtain⟨hu,o,az,al⟩:=mem_ready.1 hi
     have fv:i<aF.size:=(la.1 az).1;obtain⟨o',cg,ee,ff,pg⟩:=nv i fv;rw[az] at ee;simp only[aV] at ee;subst ee;have lR:∀j,is aF j i->a8.getD j true=true:=fun j ap=>
      r5 jw (L:=fun j=>a8.getD j true) de (i+1) i (by omega) o az (fun e he aj=>by
       have bw:e.on<i:=by have:=n1 aF.toList 0 jw i o e (by simpa using az) he aj;omega
       exact(fD _ _ _ (by omega)).trans (al e he aj)) j ap;have mi:∀k,k<aF.size->a8.getD k true=true->∀j,is aF j k->a8.getD j true=true:=fun k ao g4 j ap=>by
      obtain⟨ok,_,bR,_⟩:=nv k ao;exact r5 jw (L:=fun j=>a8.getD j true) de (k+1) k (by omega) ok bR (de k ok bR g4) j ap
     by_cases xk:i<aE+c
     .
      have iU:aE<=i:=by
       rcases mG i aE with bw|o5
       . rw[h_ i bw] at hu;cases hu
       . exact o5
      obtain⟨d,rfl⟩:∃d,i=aE+d:=⟨i -aE,by omega⟩;have C3:((a_.drop aE).take c)[d]? =some cg:=by
       rw[hs (by omega),kL];exact ff
      have TU:∀j x,((a_.drop aE).take c)[j]? =some x->j<c/\a_[aE+j]? =some x:=fun j x ab=>by
       have so:j<c:=by have:=(bn.1 ab).1;simp at this;omega
       rw[hs so,kL] at ab;exact⟨so,ab⟩
      obtain⟨v,aq,tM,Av,u6,Da⟩:=co.at d aE cg C3;have ks:∀t∈cg.cK,aY Av t=aY (iL (fun i=>a8.getD i true) aE ((a_.drop aE).take c) vs s) t:=fun t aT=>by
       rw[<-Da t];refine EP _ _ _ _ _ rfl fun j x ab sx=>?_;obtain⟨so,vu⟩:=TU j x ab;rcases Nat.lt_trichotomy j d with bw|heq|tF
       . rw[decide_eq_true (by omega)]
         rcases iS (aE+j) (aE+d) x cg (by omega) vu ff with aj|eU
         . exact(lR _ aj).symm
         . exact absurd aT ((lk eU).1 t sx)
       . subst heq
         rw[hu];simp
       . rw[decide_eq_false (by omega)]
         rcases iS (aE+d) (aE+j) cg x (by omega) ff vu with aj|eU
         . cases ag:a8.getD (aE+j) true with
           |false=>rfl
           |true=>rw[mi _ (by omega) ag _ aj] at hu;cases hu
         . exact absurd aT ((lk eU).2.2 t sx)
      have xg:=u6.move tM ks;refine wh az pg bh xg ?_;rintro aM ah du w' Γ' cm ⟨k0,rfl⟩;refine bq (a8.setIfInBounds (aE+d) true) du w' Γ' aE c vs s c9 ah (ns _ fv hu) (by simp[f9]) (nr _ o az al) TE (fun j ap=>?_) (fun j ap ip=>?_) j_ co hh ?_
      . rw[getD_set_ne true (by omega)];exact h_ j ap
      . rw[getD_set_ne true (by omega)];exact ex j ap ip
      . refine⟨cm.fY,fun t=>?_,cm.size,cm.defers,cm.ext⟩
        have:=cm.gM t;rw[k0 t,g6] at this;have e:aY (iL (fun i=>(a8.setIfInBounds (aE+d) true).getD i true) aE ((a_.drop aE).take c) vs s) t=if cg.dst=some t then v else aY (iL (fun i=>a8.getD i true) aE ((a_.drop aE).take c) vs s) t:=by
         split
         . rename_i aw
           refine Pm _ _ _ d _ C3 aq aw (by simp[f9,fv]) fun j x aOj ab sx=>?_;obtain⟨so,vu⟩:=TU j x ab;rw[getD_set_ne true (by omega)];rcases iS (aE+d) (aE+j) cg x (by omega) ff vu with aj|eU
           . cases ag:a8.getD (aE+j) true with
             |false=>rfl
             |true=>rw[mi _ (by omega) ag _ aj] at hu;cases hu
           . exact absurd sx ((lk eU).2.1 t aw)
         . rename_i aw
           refine EP _ _ _ _ _ rfl fun j x ab sx=>?_;by_cases mn:j=d
           . subst mn
             rw[C3] at ab;simp only[aV] at ab;subst ab;exact absurd sx aw
           . rw[getD_set_ne true (by omega)]
        rw[e];exact this
     .
      rcases hh with⟨hm,_⟩|⟨hI,jN,tO,p8⟩
      . omega
      . have xp:aE+c<aF.size:=by have:=(bn.1 jN).1;omega
        obtain⟨Tr,n6⟩:=aE5 (aE+c) xp tO;have xj:i=aE+c:=by
         rcases mG (aE+c) i with bw|o5
         . have:=lR _ (n6 i bw fv)
           rw[ex (aE+c) (cF _) xp] at this;cases this
         . omega
        subst xj;rw[ff] at jN;simp only[aV] at jN;subst jN;have d9:∀j,j<aE+c->a8.getD j true=true:=fun j ap=>lR j (Tr j ap);have rk:cA w0 Γ0 n w Γ c9 M a:=⟨bh.fY,fun t=>by
         rw[<-co.fin aE (fun i=>a8.getD i true) (fun i hi=>d9 (aE+i) (by have:=List.length_take_le c (a_.drop aE);omega)) t];exact bh.gM t,bh.size,bh.defers,bh.ext⟩;refine wh az pg rk p8 ?_;intro aM ah du w' Γ' cm aGd;obtain⟨c0,Ow,ow,q6,aHa,xB,Tp⟩:=Nl _ _ aM (by simp;omega) (aGb _) aGd;simp only[List.length_drop] at q6 Tp;refine bq (a8.setIfInBounds (aE+c) true) du w' Γ' (aE+c+1) c0 Ow aM ow ah (ns _ fv hu) (by simp[f9]) (nr _ o az al) (by omega) (fun j ap=>?_) (fun j ap ip=>?_) aHa xB ?_ ?_
        . by_cases TD:j=aE+c
          . subst TD;simp[f9,fv]
          . rw[getD_set_ne true (gi TD)];exact d9 j (by omega)
        . rw[getD_set_ne true (by omega)];exact ex j (by omega) ip
        . rcases Tp with⟨U,af⟩|⟨uc,U,af,ay⟩
          . exact .inl ⟨by omega,af⟩
          . rw[kL] at U af
            rw[List.drop_drop,List.drop_drop] at ay;exact .inr ⟨uc,U,af,by rwa [show aE+c+1+c0+1=aE+c+1+(c0+1) from by omega]⟩
        . refine⟨cm.fY,fun t=>?_,cm.size,cm.defers,cm.ext⟩
          rw[EQ]
          . exact cm.gM t
          . intro j ap
            have o8:j<c0:=by simp at ap;omega
            rw[getD_set_ne true (by omega)];exact ex (aE+c+1+j) (by omega) (by omega)
 refine wp_region_any C1 ?_;have lY:cA w0 Γ0 n w.drew Γ s M a:=vr.qe vr.fY.drew (Ext.drew w Γ);obtain⟨c,vs,c9,ar,j_,co,hh⟩:=Nl a_ dN s (by omega) vi zJ;have a7:∀i,i<aF.size->(Array.replicate aF.size false).getD i true=false:=fun i hi=>by simp[hi]
 refine main aF.size _ a w.drew Γ 0 c vs s c9 M ?_ (by simp) ?_ (by omega) (fun i hi=>absurd hi (fb i)) (fun i _ hi=>a7 i hi) j_ (by simpa using co) ?_ ?_
 . have:=List.countP_le_length (p:=fun i=>!(Array.replicate aF.size false).getD i true) (l:=c1 aF.size)
   simpa using this
 . intro k o az ao
   rw[a7 k (la.1 az).1] at ao;cases ao
 . simpa[Mn] using hh
 . refine⟨lY.fY,fun t=>?_,lY.size,lY.defers,lY.ext⟩
   rw[EQ]
   . exact lY.gM t
   . intro i hi
     rw[ev];exact a7 i (by simp at hi;omega)
end
end Go.aQ
namespace Go.aQ
open Go.RowKit (Below)
section
variable{P:Program}{w0 w:World}{Γ0 Γ:Env}{M:Mem}{s ds:aH}{a:Act}{n:Nat}
theorem aJq{o:dK}{M:Mem}(h:∀t∈o.cK,aY s t=aY ds t):m3 o s M=m3 o ds M:=by
 cases o<;>simp only[m3]<;>simp only[dK.cK,g_] at h
 case box n x=>rw[dU h]
 case store n a x=>rw[dU (x:=a) fun t aT=>h t (.inl aT),dU (x:=x) fun t aT=>h t (.inr aT)]
 case qS z b cP=>rw[Fk h]
 case vN z b l c=>rw[dU (x:=l) fun t aT=>h t (.inl aT),dU (x:=c) fun t aT=>h t (.inr aT)]
 case makeSlice z a b l c=>rw[dU (x:=l) fun t aT=>h t (.inl aT),dU (x:=c) fun t aT=>h t (.inr aT)]
 case append i a b x y=>rw[dU (x:=x) fun t aT=>h t (.inl aT),dU (x:=y) fun t aT=>h t (.inr aT)]
 case makeMap r=>rw[y8 h]
 case mapUpdate c m k x=>rw[dU (x:=m) fun t aT=>h t (.inl aT),dU (x:=k) fun t aT=>h t (.inr (.inl aT)),dU (x:=x) fun t aT=>h t (.inr (.inr aT))]
 case mapEntry c z m k=>rw[dU (x:=m) fun t aT=>h t (.inl aT),dU (x:=k) fun t aT=>h t (.inr aT)]
 case entryStore m st x=>rw[dU (x:=m) fun t aT=>h t (.inl aT),dU (x:=st) fun t aT=>h t (.inr (.inl aT)),dU (x:=x) fun t aT=>h t (.inr (.inr aT))]
 case copy sz d x=>rw[dU (x:=d) fun t aT=>h t (.inl aT),dU (x:=x) fun t aT=>h t (.inr aT)]
 case ry x=>rw[dU h]
 case ua x=>rw[dU h]
 case uq sz x y z=>rw[dU (x:=x) fun t aT=>h t (.inl aT),dU (x:=y) fun t aT=>h t (.inr (.inl aT)),dU (x:=z) fun t aT=>h t (.inr (.inr aT))]
 case oq n x y=>rw[dU (x:=x) fun t aT=>h t (.inl aT),dU (x:=y) fun t aT=>h t (.inr aT)]
 case uh x=>rw[dU h]
 case tf x=>rw[dU h]
 case t_ x=>rw[dU h]
theorem aNy{op:dK}{dst:Option Nat}{bx:Bool}{K:aH->Mem->Prop}(ag:∀t∈op.cK,aY s t=aY ds t)(h:wpOp P false op dst bx s M K):
 wpOp P false op dst bx ds M (fun aM ah=>∃v,aM=bA ds dst v/\K (bA s dst v) ah):=by
 cases ar:op.jz with
 |true=>
  have key:∀(f:Nat)(args:List V),oD P false f args M (fun dV ah=>kC s dst bx dV (fun aM=>K aM ah))->
   oD P false f args M (fun dV ah=>kC ds dst bx dV (fun aM=>∃v,aM=bA ds dst v/\K (bA s dst v) ah)):=fun f args h=>
   cj.mono h fun dV ah ax=>by
    rw[vU] at ax⊢;exact⟨ax.1,dV,rfl,ax.2⟩
  cases op<;>simp only[dK.jz,i_] at ar
  case call f args=>
   simp only[dK.cK] at ag;have h:oD P false f (e9 s args) M _:=h;rw[wV ag] at h;exact key _ _ h
  case hd ju args=>
   simp only[dK.cK,g_] at ag;have h:mE P false (aN s ju) (e9 s args) M _:=h;rw[wV (xs:=args) fun t aT=>ag t (.inr aT),dU (x:=ju) fun t aT=>ag t (.inl aT)] at h;show mE P false (aN ds ju) (e9 ds args) M _;unfold mE at h⊢;split at h
   . exact key _ _ h
   . exact key _ _ h
   . exact h.elim
 |false=>
  cases hm:op.hl with
  |false=>
   rw[yB hm ar] at*;obtain⟨v,U,af,ay⟩:=h;exact⟨v,by rw[<-VE ag];exact U,af,v,rfl,ay⟩
  |true=>
   by_cases tN:∃x,op=.rz x
   . obtain⟨x,rfl⟩:=tN
     have h:rS (aN s x) M (fun v ah=>K (bA s dst v) ah):=h;rw[dU ag] at h;show rS (aN ds x) M (fun v ah=>∃dV,bA ds dst v=bA ds dst dV/\K (bA s dst dV) ah);exact aNx h fun v ah aq=>⟨v,rfl,aq⟩
   by_cases pd:∃n x y,op=.oq n x y
   . obtain⟨n,x,y,rfl⟩:=pd
     have h:sV n (aN s x) (aN s y) M (fun v ah=>K (bA s dst v) ah):=h;simp only[dK.cK,g_] at ag;rw[dU (x:=x) fun t aT=>ag t (.inl aT),dU (x:=y) fun t aT=>ag t (.inr aT)] at h;show sV n (aN ds x) (aN ds y) M (fun v ah=>∃dV,bA ds dst v=bA ds dst dV/\K (bA s dst dV) ah);exact aNz h fun v ah aq=>⟨v,rfl,aq⟩
   have e:∀(s:aH)(K:aH->Mem->Prop),wpOp P false op dst bx s M K=s4 (m3 op s M) (fun v ah=>K (bA s dst v) ah):=by
    intro s K;cases op<;>first|(exact absurd ⟨_,rfl⟩ tN)|(exact absurd ⟨_,_,_,rfl⟩ pd)|first|rfl|(simp[dK.jz] at ar;done)|(simp[dK.hl] at hm;done)
   rw[e] at h⊢;rw[<-aJq ag];unfold s4 at h⊢;split at h
   . exact⟨_,rfl,h⟩
   . exact h.elim
def jt(a_:List bt)(i:Nat):Option Nat:=
 match a_[i]? with
 |some o=>o.dst
 |none=>none
def bM(a_:List bt)(val:Nat->V)(L:Nat->Bool)(s0:aH):Nat->aH
 |0=>s0
 |i+1=>bif L i then bA (bM a_ val L s0 i) (jt a_ i) (val i) else bM a_ val L s0 i
theorem hb{a_:List bt}{val val':Nat->V}{L L':Nat->Bool}{s0 s0':aH}{t:Nat}:∀m,aY s0 t=aY s0' t->(∀i,i<m->jt a_ i=some t->L i=L' i/\(L i=true->val i=val' i))->
 aY (bM a_ val L s0 m) t=aY (bM a_ val' L' s0' m) t
 |0,h,_=>h
 |m+1,h,dh=>by
  have bq:=hb (val:=val) (val':=val') (L:=L) (L':=L') m h fun i hi aw=>dh i (by omega) aw;simp only[bM];by_cases aw:jt a_ m=some t
  . obtain⟨U,af⟩:=dh m (by omega) aw
    rw[<-U];cases ag:L m with
    |false=>exact bq
    |true=>simp only[cond_true,g6,aw,if_true];exact af ag
  . cases L m<;>cases L' m<;>simp only[cond_true,cond_false,g6,if_neg aw]<;>exact bq
theorem r4{a_:List bt}{val:Nat->V}{L:Nat->Bool}{s0:aH}{i:Nat}:∀m,i<=m->(∀j,i<=j->j<m->L j=false)->bM a_ val L s0 m=bM a_ val L s0 i
 |0,h,_=>by have:i=0:=by omega
            rw[this]
 |m+1,h,dh=>by
  by_cases hi:i=m+1
  . rw[hi]
  . simp only[bM,dh m (by omega) (by omega),cond_false]
    exact r4 m (by omega) fun j U af=>dh j U (by omega)
theorem E0{a_:List bt}{val:Nat->V}{L L':Nat->Bool}{s0:aH}{i t:Nat}(hi:L i=false)(hi':L' i=true)(ak:∀j,j≠i->L' j=L j):∀m,i<m->
 (∀j,i<j->j<m->jt a_ j=some t->jt a_ i=some t->L j=false)->
 aY (bM a_ val L' s0 m) t=if jt a_ i=some t then val i else aY (bM a_ val L s0 m) t
 |0,h,_=>absurd h (fb i)
 |m+1,h,aK=>by
  by_cases xk:i=m
  . subst xk
    simp only[bM,hi,hi',cond_true,cond_false,g6];split
    . rfl
    . exact hb _ rfl fun j ap _=>⟨ak j (by omega),fun _=>rfl⟩
  . have bq:=E0 (a_:=a_) (val:=val) (s0:=s0) hi hi' ak m (by omega) fun j U af=>aK j U (by omega)
    simp only[bM,ak m (gi xk)];cases ag:L m with
    |false=>exact bq
    |true=>
     simp only[cond_true,g6];by_cases aw:jt a_ m=some t
     . simp only[if_pos aw]
       split
       . rename_i kY
         rw[aK m (by omega) (by omega) aw kY] at ag;cases ag
       . rfl
     . simp only[if_neg aw];exact bq
theorem aAB{o:bt}{v:V}(hm:o.op.hl=false)(ar:o.op.jz=false)(aB:o.guard=none){ah:Mem}(h:gj P o s M v)(aw:o.dst≠none)(ax:hL o.op s ah=some v):gj P o s ah v:=by
 obtain⟨dst,op,bx,g⟩:=o;simp only at aB hm ar ax aw;subst aB;unfold gj hr at h⊢;simp only at h⊢;rw[yB hm ar] at h⊢;obtain⟨dV,U,af,ay,_⟩:=h;refine⟨v,ax,fun aj=>?_,fun _=>rfl,rfl⟩;obtain⟨b,rfl⟩:=af aj;cases dst with
 |none=>exact absurd rfl aw
 |some d=>
  have:=ay d;simp only[g6,if_true] at this;exact⟨b,this.symm⟩
theorem QM{o:bt}{v:V}(hm:o.op.hl=false)(ar:o.op.jz=false∨o.op.xR=true)(aB:o.guard=none){ah:Mem}(h:gj P o s M v)(aw:o.dst≠none)(ax:gk P o s v ah):gj P o s ah v:=by
 rcases ar with ar|ar
 . refine aAB hm ar aB h aw ?_
   obtain⟨dst,op,bx,g⟩:=o;cases op<;>first|exact ax|cases ar
 . obtain⟨dst,op,bx,g⟩:=o
   simp only at aB aw;subst aB;cases op<;>simp only[dK.xR,i_] at ar;rename_i f args;obtain⟨ax,aj⟩:cj P f (e9 s args) ah (fun x mb=>x=v/\mb=ah)/\(bx=true->∃b,v=.bool b):=ax;show cj P f (e9 s args) ah (fun dV mb=>kC s dst bx dV (fun aM=>kO (bA s dst v) ah aM mb));refine ax.mono ?_;rintro _ _ ⟨rfl,rfl⟩;rw[vU];exact⟨aj,fun _=>rfl,rfl⟩
def uC(P:Program)(a_:List bt)(bJ:List (Option (List Nat)))(val:Nat->V)(s0:aH)(H:List (Nat×(Mem->Prop)))(q:Nat):Prop:=
 ∀i o,i<q->a_[i]? =some o->bJ[i]? =some none->o.guard=none->o.dst≠none->∀ah,nG H i ah->gj P o (bM a_ val (fun _=>true) s0 i) ah (val i)
theorem Bn{a_:List bt}{bJ:List (Option (List Nat))}{K:aH->Mem->Prop}{s0:aH}(hlen:a_.length=bJ.length)(bh:∀(i:Nat)(o:bt),a_[i]? =some o->bJ[i]? =some none->o.op.hl=false/\(o.op.jz=false∨o.op.xR=true)):
 ∀(m q:Nat)(val:Nat->V)(H:List (Nat×(Mem->Prop)))(s:aH),a_.length -q=m->q<=a_.length->uC P a_ bJ val s0 H q->(∀t,aY s t=aY (bM a_ val (fun _=>true) s0 q) t)->l8 P (a_.drop q) (bJ.drop q) q H s M K->
 ∃(p:Nat)(val':Nat->V)(fX:List (Nat×(Mem->Prop)))(c9:aH),q<=p/\p<=a_.length/\(∀i,i<q->val' i=val i)/\uC P a_ bJ val' s0 fX p/\(∀t,aY c9 t=aY (bM a_ val' (fun _=>true) s0 p) t)/\
  (∀i,q<=i->i<p->∃o,a_[i]? =some o/\bJ[i]? =some none/\gj P o (bM a_ val' (fun _=>true) s0 i) M (val' i))/\
  ((p=a_.length/\K c9 M)∨∃o l,a_[p]? =some o/\bJ[p]? =some (some l)/\hr P false o c9 M (fun aM ah=>kE fX l ah/\l8 P (a_.drop (p+1)) (bJ.drop (p+1)) (p+1) fX aM ah K))
 |0,q,val,H,s,hm,aG,f8,ak,h=>by
  have e:q=a_.length:=by omega
  subst e;rw[List.drop_length,List.drop_eq_nil_of_le (by omega)] at h;exact⟨a_.length,val,H,s,cF _,cF _,fun _ _=>rfl,f8,ak,fun i U af=>by omega,.inl ⟨rfl,h⟩⟩
 |m+1,q,val,H,s,hm,aG,f8,ak,h=>by
  have MC:q<a_.length:=by omega
  have mg:a_.drop q=a_[q]::a_.drop (q+1):=qx MC;have wM:bJ.drop q=bJ[q]'(by omega)::bJ.drop (q+1):=qx (by omega);have j9:a_[q]? =some a_[q]:=by simp
  have w7:bJ[q]? =some (bJ[q]'(by omega)):=by simp
  rw[mg,wM] at h;generalize a_[q]=o at*;generalize bJ[q]'(by omega)=f at*;cases f with
  |some l=>exact⟨q,val,H,s,cF _,aG,fun _ _=>rfl,f8,ak,fun i U af=>by omega,.inr ⟨o,l,j9,w7,h⟩⟩
  |none=>
   obtain⟨n7,ty⟩:=bh q o j9 w7;simp only[l8] at h;obtain⟨v,aM,U,af,ay⟩:=OC n7 h;have cut:∀i,i<=q->∀t,aY (bM a_ (fun i=>if i=q then v else val i) (fun _=>true) s0 i) t=aY (bM a_ val (fun _=>true) s0 i) t:=fun i hi t=>
    hb i rfl fun j ap _=>⟨rfl,fun _=>if_neg (by omega)⟩;have L7:jt a_ q=o.dst:=by simp only[jt,j9]
   obtain⟨p,val',fX,c9,bH,b8,dS,fr,fs,ia,mZ⟩:=Bn hlen bh m (q+1) (fun i=>if i=q then v else val i) ((q,gk P o s (pM aM o.dst))::H) aM (by omega) (by omega) (by
    intro i x hi ab aC aB aw ah ag;by_cases re:i=q
    . subst re
      rw[j9] at ab;simp only[aV] at ab;subst ab;have e:ep i i=true:=by simp
      simp only[nG,e] at ag;obtain⟨d,o2⟩:∃d,o.dst=some d:=Option.ne_none_iff_exists'.1 aw;have aq:pM aM o.dst=v:=by rw[o2,pM,af d,g6,if_pos o2]
      rw[aq] at ag;have:=QM n7 ty aB U aw ag;simp only[if_true];exact this.move n7 fun t _=>(ak t).trans (cut i (cF _) t).symm
    . have e:ep q i=false:=by
       cases aj:ep q i with
       |false=>rfl
       |true=>exact absurd (oI aj).symm re
      simp only[nG,e] at ag;have:=f8 i x (by omega) ab aC aB aw ah ag;show gj P x _ ah (if i=q then v else val i);rw[if_neg re];exact this.move (bh i x ab aC).1 fun t _=>(cut i (by omega) t).symm) (fun t=>by
    rw[af t];simp only[bM,cond_true,L7,if_true];rw[g6,g6,ak t,cut q (cF _) t]) ay;refine⟨p,val',fX,c9,by omega,b8,fun i hi=>(dS i (by omega)).trans (if_neg (by omega)),fr,fs,fun i ve mm=>?_,mZ⟩;by_cases re:i=q
   . subst re
     refine⟨o,j9,w7,?_⟩;have aq:val' i=v:=(dS i (by omega)).trans (if_pos rfl);rw[aq];refine U.move n7 fun t _=>?_;rw[ak t];exact hb i rfl fun j ap _=>⟨rfl,fun _=>((dS j (by omega)).trans (if_neg (by omega))).symm⟩
   . exact ia i (by omega) mm
theorem Ec{H:List (Nat×(Mem->Prop))}{ah:Mem}:∀{l:List Nat},kE H l ah->∀i∈l,nG H i ah
 |[],_,i,hi=>by simp at hi
 |j::l,h,i,hi=>by
  rcases jm.1 hi with rfl|hi
  . exact h.1
  . exact Ec h.2 i hi
def Kf(fE:Bool)(aF:Array Oper)(bj:List bt)(bJ:List (Option (List Nat)))(aO:Nat->Nat)(p:Nat):Prop:=
 fE=false/\p+1<aF.size/\∃d1 h0 d2 g9 eW,bj[p]? =some ⟨some d1,.alloc h0,false,none⟩/\bj[p+1]? =some ⟨some d2,.alloc g9,false,none⟩/\bJ[p+1]? =some (some eW)/\
  ∀i,p+1<i->i<aF.size->is aF (aO p) (aO i)/\is aF (aO (p+1)) (aO i)
theorem Vx{o:bt}(h:Jt o=true):∃d z,o=⟨some d,.alloc z,false,none⟩:=by
 unfold Jt at h;split at h
 . exact⟨_,_,rfl⟩
 . cases h
structure wi(fE:Bool)(lo:Nat)(aF:Array Oper)(a_ bj:List bt)(bJ:List (Option (List Nat)))(aO:Nat->Nat):Prop where
 len:bj.length=aF.size
 za:bJ.length=aF.size
 back:te 0 aF.toList=true
 lt:∀i,i<aF.size->aO i<aF.size
 inj:∀i j,i<aF.size->j<aF.size->aO i=aO j->i=j
 yp:∀k,k<aF.size->∃i,i<aF.size/\aO i=k
 get:∀i,i<aF.size->bj[i]? =a_[aO i]?
 apart:∀(i k:Nat)(x y:bt),i<k->k<aF.size->bj[i]? =some x->bj[k]? =some y->is aF (aO i) (aO k)∨x.r3 y=true
 still:∀(i:Nat)(o:bt),bj[i]? =some o->bJ[i]? =some none->o.op.hl=false/\(o.op.jz=false∨(fE=true/\o.op.xR=true))
 aN:∀(p:Nat)(o:bt)(l:List Nat),lo<=p->bj[p]? =some o->bJ[p]? =some (some l)->o.guard=none/\((∀i,p<i->i<aF.size->is aF (aO p) (aO i))∨Kf fE aF bj bJ aO p)/\
  ∀(j:Nat)(x:bt),j<p->bj[j]? =some x->is aF (aO j) (aO p)∨(j+1=p/\Kf fE aF bj bJ aO j)∨(j∈l/\x.guard=none/\x.dst≠none/\bJ[j]? =some none)
theorem wi.Ax{fE:Bool}{lo:Nat}{aF:Array Oper}{a_ bj:List bt}{bJ:List (Option (List Nat))}{aO:Nat->Nat}(h:wi fE lo aF a_ bj bJ aO):∀(i:Nat)(o:bt),bj[i]? =some o->bJ[i]? =some none->o.op.hl=false/\(o.op.jz=false∨o.op.xR=true):=fun i o U af=>
 ⟨(h.still i o U af).1,(h.still i o U af).2.imp id fun q=>q.2⟩
theorem SI{fE:Bool}{lo:Nat}{aF:Array Oper}{a_:List bt}{aO:List Nat}(U:ep aO.length a_.length=true)(af:ep a_.length aF.size=true)(ay:te 0 aF.toList=true)
 (be:∀k,k<a_.length->nB aO k=true)(bv:∀k,k<a_.length->il (aO.getD k 0) a_.length=true/\∀i,i<k->(!ep (aO.getD i 0) (aO.getD k 0))=true)
 (b7:∀k,k<a_.length->∀i,i<k->(n0 (gv aF.toList []) aO i k||((aO.map fun i=>a_.getD i default).getD i default).r3 ((aO.map fun i=>a_.getD i default).getD k default))=true)
 (dQ:∀p,p<a_.length->(lo<=p∨(n4 (gv aF.toList []) aO (a_.map (n2 fE)) a_.length).getD p none=none)->Ai fE (gv aF.toList []) aO (n4 (gv aF.toList []) aO (a_.map (n2 fE)) a_.length) (aO.map fun i=>a_.getD i default) a_.length p=true):
 wi fE lo aF a_ (aO.map fun i=>a_.getD i default) (n4 (gv aF.toList []) aO (a_.map (n2 fE)) a_.length) (fun i=>aO.getD i 0):=by
 have a6:aO.length=a_.length:=oI U;have ba:a_.length=aF.size:=oI af;have bw:∀k,k<aF.size->aO.getD k 0<aF.size:=fun k ao=>by
  have:=(bv k (by omega)).1;rw[Nat.blt_eq] at this;omega
 have TA:∀i k,i<k->k<aF.size->aO.getD i 0≠aO.getD k 0:=fun i k iU ao e=>by
  have:=(bv k (by omega)).2 i iU;rw[e] at this;simp at this
 have aB:∀i,i<aF.size->(aO.map fun i=>a_.getD i default)[i]? =a_[aO.getD i 0]? :=fun i hi=>by
  have hi':i<aO.length:=by omega
  have ag:=bw i hi;rw[gY,gd hi',mI];have e:aO.getD i 0=aO[i]:=by simp[kK,hi']
  rw[e] at ag⊢;rw[gd (by omega)];simp[kK,show aO[i]<a_.length by omega]
 have en:∀i x,(aO.map fun i=>a_.getD i default)[i]? =some x->(aO.map fun i=>a_.getD i default).getD i default=x:=fun i x ab=>by
  rw[kK,ab];rfl
 have bP:∀p,p<aF.size->∀d,(n4 (gv aF.toList []) aO (a_.map (n2 fE)) a_.length).getD p d=((n4 (gv aF.toList []) aO (a_.map (n2 fE)) a_.length)[p]?).getD d:=fun p _ d=>by rw[kK]
 have bY:∀i k,n0 (gv aF.toList []) aO i k=true->is aF (aO.getD i 0) (aO.getD k 0):=fun i k aj=>aj;refine⟨by simp;omega,by simp[n4];omega,ay,bw,?_,?_,aB,?_,?_,?_⟩
 . intro i j hi ap e
   rcases Nat.lt_trichotomy i j with h|h|h
   . exact absurd e (TA i j h ap)
   . exact h
   . exact absurd e.symm (TA j i h hi)
 . intro k ao
   have:=z4.1 (be k (by omega));obtain⟨i,hi,rfl⟩:=List.getElem_of_mem this;exact⟨i,by omega,by simp[kK,hi]⟩
 . intro i k x y iU ao ab aD
   have:=b7 k (by omega) i iU;rw[en i x ab,en k y aD,Bool.or_eq_true] at this;rcases this with h|h
   . exact .inl (bY _ _ h)
   . exact .inr h
 . intro i o az aC
   have hi:i<aF.size:=by
    have:=(bn.1 az).1;simp at this;omega
   have:=dQ i (by omega) (.inr (by rw[kK,aC];rfl));unfold Ai at this;rw[bP i hi,aC] at this;simp only[Option.getD_some] at this;rw[en i o az] at this;simp only[n2,lH,Bool.or_eq_false_iff,Bool.and_eq_false_iff,Bool.not_eq_false',b_] at this;exact this
 . intro p o l h_ az aC
   have ax:p<aF.size:=by
    have:=(bn.1 az).1;simp at this;omega
   have:=dQ p (by omega) (.inl h_);unfold Ai at this;rw[bP p ax,aC] at this;simp only[Option.getD_some] at this;rw[en p o az] at this;simp only[b_,List.all_eq_true,jY] at this;obtain⟨⟨aW,a9⟩,bN⟩:=this;have vk:∀x:bt,ub x=true->x.guard=none:=fun x ab=>by
    unfold ub at ab;split at ab
    . assumption
    . cases ab
   have TT:∀q,Jq fE (gv aF.toList []) aO (n4 (gv aF.toList []) aO (a_.map (n2 fE)) a_.length) (aO.map fun i=>a_.getD i default) a_.length q=true->
    Kf fE aF (aO.map fun i=>a_.getD i default) (n4 (gv aF.toList []) aO (a_.map (n2 fE)) a_.length) (fun i=>aO.getD i 0) q:=fun q aG=>by
    unfold Jq at aG;simp only[b_,List.all_eq_true,jY] at aG;obtain⟨⟨⟨⟨⟨hM,dw⟩,dn⟩,i3⟩,sI⟩,Jx⟩:=aG;have hM:fE=false:=by simpa using hM
    have dw:=oP.1 dw;have SP:∀k,k<aF.size->∃x,(aO.map fun i=>a_.getD i default)[k]? =some x:=fun k ao=>by
     exact⟨_,gd (by simp;omega)⟩
    obtain⟨hZ,l2⟩:=SP q (by omega);obtain⟨JZ,Ug⟩:=SP (q+1) (by omega);rw[en q hZ l2] at dn;rw[en (q+1) JZ Ug] at i3;obtain⟨d1,h0,rfl⟩:=Vx dn;obtain⟨d2,g9,rfl⟩:=Vx i3;rw[bP (q+1) (by omega)] at sI;refine⟨hM,by omega,d1,h0,d2,g9,?_⟩;cases gS:(n4 (gv aF.toList []) aO (a_.map (n2 fE)) a_.length)[q+1]? with
    |none=>rw[gS] at sI;simp at sI
    |some f=>
     rw[gS] at sI;cases f with
     |none=>simp at sI
     |some eW=>
      refine⟨eW,l2,Ug,rfl,fun i ve mm=>?_⟩;have:=Jx i (by omega);rw[show il (q+1) i=true from oP.2 ve] at this;simp only[Bool.not_true,Bool.false_or,b_] at this;exact⟨bY _ _ this.1,bY _ _ this.2⟩
   refine⟨vk o aW,?_,fun j x ap ab=>?_⟩
   . rcases Bool.or_eq_true _ _|>.mp a9 with a9|a9
     . refine .inl fun i su hi=>?_
       have:=List.all_eq_true.1 a9 i (jY.2 (by omega));rw[show il p i=true from oP.2 su] at this;exact bY _ _ (by simpa using this)
     . exact .inr (TT p a9)
   . have:=bN j ap
     rw[en j x ab,Bool.or_eq_true,Bool.or_eq_true] at this;rcases this with(h|h)|h
     . exact .inl (bY _ _ h)
     . simp only[b_] at h
       exact .inr (.inl ⟨oI h.1,TT j h.2⟩)
     . simp only[b_] at h
       obtain⟨⟨⟨bH,b8⟩,dS⟩,fr⟩:=h;refine .inr (.inr ⟨z4.1 bH,vk x b8,(fun e=>by rw[e] at dS;cases dS),?_⟩);rw[bP j (by omega)] at fr;cases Ha:(n4 (gv aF.toList []) aO (a_.map (n2 fE)) a_.length)[j]? with
       |none=>rw[Ha] at fr;simp at fr
       |some f=>
        rw[Ha] at fr;cases f with
        |none=>rfl
        |some l=>simp at fr
theorem aJe{fE:Bool}{aF:Array Oper}{a_ bj:List bt}{bJ:List (Option (List Nat))}(h:Je fE aF a_=some (bj,bJ)):∃aO,wi fE 0 aF a_ bj bJ aO:=by
 unfold Je at h;simp only at h;split at h
 . cases h
 . rename_i aO zv
   obtain⟨ar,he⟩:=fe h;simp only[dX] at he;obtain⟨rfl,rfl⟩:=he;simp only[b_,List.all_eq_true,jY] at ar;obtain⟨⟨⟨⟨⟨⟨U,af⟩,ay⟩,be⟩,bv⟩,b7⟩,dQ⟩:=ar;exact⟨_,SI U af ay be bv b7 fun p ax _=>dQ p ax⟩
abbrev XZ(lo:Nat)(P:Program)(w0:World)(Γ0:Env)(n:Nat)(aF:Array Oper)(bj:List bt)(bJ:List (Option (List Nat)))(aO:Nat->Nat)(s:aH)(K:aH->Mem->Prop)(Q:Exit->Act->World->Prop)(fuel:Nat):Prop:=
 ∀(a8:Array Bool)(a:Act)(w:World)(Γ:Env)(p:Nat)(val:Nat->V)(H:List (Nat×(Mem->Prop)))(c9:aH)(M:Mem),
    (c1 aF.size).countP (fun i=>!a8.getD i true)<=fuel->a8.size=aF.size->
    (∀k o,aF[k]? =some o->a8.getD k true=true->∀e∈o.after,Region.binds .any e=true->a8.getD e.on true=true)->
    lo<=p->p<=aF.size->(∀i,p<=i->i<aF.size->a8.getD (aO i) true=false)->
    (∀i,i<p->a8.getD (aO i) true=false->∃o,bj[i]? =some o/\bJ[i]? =some none/\gj P o (bM bj val (fun _=>true) s i) M (val i))->
    uC P bj bJ val s H p->(∀t,aY c9 t=aY (bM bj val (fun _=>true) s p) t)->
    ((p=aF.size/\K c9 M)∨∃o l,bj[p]? =some o/\bJ[p]? =some (some l)/\hr P false o c9 M (fun aM ah=>kE H l ah/\l8 P (bj.drop (p+1)) (bJ.drop (p+1)) (p+1) H aM ah K))->
    cA w0 Γ0 n w Γ (bM bj val (fun i=>a8.getD (aO i) true) s p) M a->
    wpAny P .any aF Q fuel a8 a w
abbrev XX(fE:Bool)(lo:Nat)(P:Program)(w0:World)(Γ0:Env)(n:Nat)(aF:Array Oper)(bj:List bt)(bJ:List (Option (List Nat)))(aO:Nat->Nat)(s:aH)(K:aH->Mem->Prop)(Q:Exit->Act->World->Prop)(fuel:Nat):Prop:=
 ∀(a8:Array Bool)(a:Act)(w:World)(Γ:Env)(p:Nat)(val:Nat->V)(H:List (Nat×(Mem->Prop)))(c9:aH)(M:Mem)(d1:Nat)(h0:List V)(d2:Nat)(g9:List V)(cU eW:List Nat),
    fE=false->(c1 aF.size).countP (fun i=>!a8.getD i true)<=fuel->a8.size=aF.size->
    (∀k o,aF[k]? =some o->a8.getD k true=true->∀e∈o.after,Region.binds .any e=true->a8.getD e.on true=true)->
    lo<=p->p+1<aF.size->bj[p]? =some ⟨some d1,.alloc h0,false,none⟩->bj[p+1]? =some ⟨some d2,.alloc g9,false,none⟩->bJ[p]? =some (some cU)->bJ[p+1]? =some (some eW)->
    (∀i,p+1<i->i<aF.size->is aF (aO p) (aO i))->
    a8.getD (aO (p+1)) true=true->(∀i,p<=i->i<aF.size->i≠p+1->a8.getD (aO i) true=false)->
    (∀i,i<p->a8.getD (aO i) true=false->∃o,bj[i]? =some o/\bJ[i]? =some none/\gj P o (bM bj val (fun _=>true) s i) M (val i))->
    uC P bj bJ val s H p->(∀t,aY c9 t=aY (bM bj val (fun _=>true) s p) t)->
    hr P false ⟨some d1,.alloc h0,false,none⟩ c9 M (fun aM ah=>kE H cU ah/\l8 P (bj.drop (p+1)) (bJ.drop (p+1)) (p+1) H aM ah K)->
    cA w0 Γ0 n w Γ (eK (bM bj val (fun i=>a8.getD (aO i) true) s p) d2 (.ptr (M.length+1) 0)) (M++[.dead,.box g9]) a->
    wpAny P .any aF Q fuel a8 a w
theorem w6{M:Mem}{i:Nat}{B:a2}(h:M[i]? =some B)(L:Mem):(M++L)[i]? =some B:=by
 rw[gh (bn.1 h).1,h]
theorem aIw{k:Nat}{bX:Bool}{x v:V}{M:Mem}(L:Mem)(h:hn k bX x M=some v):hn k bX x (M++L)=some v:=by
 cases x<;>simp only[hn] at h⊢<;>first|exact h|skip
 case ptr id off=>
  cases bb:M[id]? with
  |none=>rw[bb] at h;cases h
  |some B=>rw[bb] at h;rw[w6 bb];exact h
 case fo id ver row off=>
  cases bb:M[id]? with
  |none=>rw[bb] at h;cases h
  |some B=>rw[bb] at h;rw[w6 bb];exact h
theorem aLi{k:Nat}{x:V}{r:List (List V)}{M:Mem}(L:Mem)(h:eJ k M x=some r):eJ k (M++L) x=some r:=by
 cases x<;>simp only[eJ] at h⊢<;>first|exact h|skip
 case aX id _ _ _=>
  cases bb:M[id]? with
  |none=>rw[bb] at h;cases h
  |some B=>rw[bb] at h;rw[w6 bb];exact h
theorem aIg{x v:V}{M:Mem}(L:Mem)(h:i0 x M=some v):i0 x (M++L)=some v:=by
 cases x<;>simp only[i0] at h⊢<;>first|exact h|skip
 case aX id _ _ _=>
  cases bb:M[id]? with
  |none=>rw[bb] at h;cases h
  |some B=>rw[bb] at h;rw[w6 bb];exact h
theorem aHB{k:Nat}{x i v:V}{M:Mem}(L:Mem)(h:jj k x i M=some v):jj k x i (M++L)=some v:=by
 cases i<;>simp only[jj] at h⊢<;>first|exact h|skip
 case int qd q=>
  cases aw:decide (0<=q) with
  |false=>rw[aw] at h;cases h
  |true=>
   rw[aw] at h;simp only[cond_true] at h⊢;cases x<;>simp only at h⊢<;>first|exact h|skip
   case aX id _ _ _=>
    cases bb:M[id]? with
    |none=>rw[bb] at h;cases h
    |some B=>rw[bb] at h;rw[w6 bb];exact h
theorem aLT{k:Nat}{x v:V}{lo hi mx:Option V}{M:Mem}(L:Mem)(h:g7 k x lo hi mx M=some v):g7 k x lo hi mx (M++L)=some v:=by
 cases x<;>simp only[g7] at h⊢<;>first|exact h|skip
 case aX id _ _ _=>
  cases bb:M[id]? with
  |none=>rw[bb] at h;cases mx<;>cases h
  |some B=>rw[bb] at h;rw[w6 bb];exact h
theorem aI3{c:fl}{m key:V}{r:Option V}{M:Mem}(L:Mem)(h:m2 c M m key=some r):m2 c (M++L) m key=some r:=by
 unfold m2 at h⊢;cases ao:kw c key with
 |false=>rw[ao] at h;cases h
 |true=>
  rw[ao] at h;simp only[cond_true] at h⊢;cases m<;>simp only at h⊢<;>first|exact h|skip
  case map id=>
   cases bb:M[id]? with
   |none=>rw[bb] at h;cases h
   |some B=>rw[bb] at h;rw[w6 bb];exact h
theorem aKf{o:dK}{v:V}{M:Mem}(L:Mem)(h:hL o s M=some v):hL o s (M++L)=some v:=by
 cases o<;>simp only[hL] at h⊢<;>first|exact h|exact aIw L h|exact aIg L h|exact aHB L h|exact aLT L h|skip
 case qT x=>
  unfold r6 at h⊢;cases al:eJ 1 M (aN s x) with
  |none=>rw[al] at h;cases h
  |some r=>rw[al] at h;rw[aLi L al];exact h
 case lookup c z bX ok m k=>
  unfold oh at h⊢;cases al:m2 c M (aN s m) (aN s k) with
  |none=>rw[al] at h;cases h
  |some r=>rw[al] at h;rw[aI3 L al];exact h
theorem gj.app{o:bt}{v:V}(hm:o.op.hl=false)(ar:o.op.jz=false)(h:gj P o s M v)(L:Mem):gj P o s (M++L) v:=by
 obtain⟨dst,op,bx,g⟩:=o;have key:∀(s1 r:aH),wpOp P false op dst bx s1 M (kO r M)->wpOp P false op dst bx s1 (M++L) (kO r (M++L)):=fun s1 r h=>by
  rw[yB hm ar] at h⊢;obtain⟨dV,U,af,ay,_⟩:=h;exact⟨dV,aKf L U,af,ay,rfl⟩
 have DL:∀(s1 r:aH),kO r M s1 M->kO r (M++L) s1 (M++L):=fun s1 r h=>⟨h.1,rfl⟩;unfold gj hr at h⊢;cases g with
 |none=>exact key _ _ h
 |some np=>
  obtain⟨g,gN⟩:=np;simp only at h⊢;cases aB:aY s g<;>rw[aB] at h<;>(try simp only at h)<;>(try simp only)<;>first|exact h.elim|skip
  case bool b=>
   cases gN<;>cases b<;>first|exact key _ _ h|exact DL _ _ h
  case tuple vs=>
   cases vs with
   |nil=>exact DL _ _ h
   |cons _ _=>exact h.elim
theorem aaU(aB:Good w Γ M){o:Oper}{id:Nat}(bb:M[id]? =some .dead){e:TypeId}{z:List V}(az:o.op=.alloc e)(a7:kJ P e=some z):h3 P w Γ a o (.ptr id 0) (M.set id (.box z)):=by
 obtain⟨dR,U,af⟩:=yD a7;obtain⟨l,ag⟩:=aB.aIB bb;obtain⟨aj,jx⟩:=aB.eG id l _ ag bb;have bw:id<Γ.cW.length:=(bn.1 ag).1;let l':Loc:=⟨w.heap.size,true,true,0,0,l.ver+1⟩
 have he:Ext w Γ (w.alloc (.cells dR.cells e)) (Γ.fh id l' Γ.S):=Ext.fh ag aj (by show l.ver<l.ver+1;omega) (fun b q ak=>⟨ak,v0 (nt w _ (aB.rH ak))⟩) ((Below.refl _ _).alloc aB.base _) (fun _ _ _ h=>h);refine⟨_,w.alloc (.cells dR.cells e),Γ.fh id l' Γ.S,?_,.inl ⟨.pointer (some ⟨w.heap.size,0,none⟩),rfl,.ptr id 0 l' (by simp only[Env.fh];rw[eC bw]) rfl rfl⟩,?_,he⟩
 . simp[execOp,az,Instr.alloc,U,newVar,newRow]
 . refine aB.fh ag he (fun k _ ao=>nt w _ ao) (fun i m hi hm aq=>⟨fun e=>?_,fun _ h=>h⟩) aB.base (fun b q ak=>?_) ⟨rfl,rfl,fun q ak=>aB.vQ q ak,dR.cells,e,heap_alloc_new w _,((af w Γ).1).ext he⟩
   . have:=aB.m0 hm aq
     rw[show m.b=w.heap.size from e] at this;omega
   . obtain⟨u,hu⟩:=aB.jC b q ak
     exact⟨u,(ta (nt w _ (aB.rH ak))).trans hu⟩
theorem aKV{mu k3:Bool}{na:TypeId}{op:Op}{z:List V}(h:gK P mu k3 na op=some (.alloc z)):∃e,op=.alloc e/\kJ P e=some z:=by
 cases op
 case alloc e=>
  simp only[gK,dJ] at h;obtain⟨OE,a7,he⟩:=h;cases he;exact⟨e,rfl,a7⟩
 case call c=>
  exfalso;obtain⟨callee,args,iG⟩:=c;cases callee with
  |builtin b=>
   simp only[gK] at h;unfold vX at h
   repeat' (split at h)
   all_goals first
    |contradiction
    |(cases h;done)
    |(simp only[dJ] at h;obtain⟨_,_,h⟩:=h;cases h;done)
    |(simp only[aV] at h;cases h;done)
    |(obtain⟨_,_,_,_,h⟩:=hz h;cases h;done)
  |value f=>
   cases f with
   |func f=>
    simp only[gK,dJ] at h;obtain⟨_,_,h⟩:=h;cases h
   |tmp t=>simp only[gK] at h;obtain⟨_,_,_,_,h⟩:=hz h;cases h
   |const c=>simp only[gK] at h;obtain⟨_,_,_,_,h⟩:=hz h;cases h
   |global g=>simp only[gK] at h;obtain⟨_,_,_,_,h⟩:=hz h;cases h
  |invoke r m=>simp[gK] at h
 all_goals
  exfalso;simp only[gK,reduceCtorEq] at h<;>(repeat' (split at h))<;>first
   |contradiction
   |(cases h;done)
   |(simp only[dJ] at h;obtain⟨_,_,h⟩:=h;cases h;done)
   |(simp only[aV] at h;cases h;done)
   |(obtain⟨_,h⟩:=fe h;cases h;done)
   |(obtain⟨_,_,_,_,h⟩:=hz h;cases h;done)
theorem Xd{aF:Array Oper}{i:Nat}{o:Oper}{d:Nat}{z:List V}{mu:List Nat}(az:aF[i]? =some o)(fk:sL P n mu aF i o=some ⟨some d,.alloc z,false,none⟩)(bh:cA w0 Γ0 n w Γ s M a){id:Nat}(bb:M[id]? =some .dead)
 {next:Act->World->Prop}{Q:Exit->Act->World->Prop}(ao:∀du w' Γ',cA w0 Γ0 n w' Γ' (eK s d (.ptr id 0)) (M.set id (.box z)) du->next du w'):Go.wpOp P aF Q i next a w:=by
 obtain⟨op,g,g5,aB,heq,aw⟩:=NN fk;simp only[bt.mk.injEq] at heq;obtain⟨jg,rfl,_,rfl⟩:=heq;obtain⟨e,aGp,a7⟩:=aKV g5;have fD:o.guard=none:=by
  cases Mi:o.guard with
  |none=>rfl
  |some np=>
   obtain⟨j,gN⟩:=np;rw[Mi] at aB;simp only[yd,dJ] at aB;obtain⟨_,_,h⟩:=aB;cases h
 have tP:Region.wanted o (yielded aF a.tmps)=true:=by simp[Region.wanted,fD]
 unfold Go.wpOp;simp only[az,tP,if_true];refine .inl ?_;obtain⟨r,w',Γ',co,fk,o4,he⟩:=aaU (P:=P) (a:=a) bh.fY bb aGp a7;unfold Oper.wp;rw[co];rcases fk with⟨bl,rfl,aq⟩|⟨_,aq⟩
 . rw[Oper.upon_value]
   have:=(bh.qe o4 he).put (dst:=o.dst) aq aw;rw[<-jg] at this;rw[<-jg];exact ao _ _ _ this
 . cases aq
theorem Ry{aF:Array Oper}{a_ bj:List bt}{bJ:List (Option (List Nat))}{aO:Nat->Nat}{lo:Nat}{mu:List Nat}{Q:Exit->Act->World->Prop}{K:aH->Mem->Prop}{fE:Bool}(fk:pw P n mu aF 0 aF.toList=some a_)(bP:wi fE lo aF a_ bj bJ aO)
 (gq:∀aM ah du w' Γ',cA w0 Γ0 n w' Γ' aM ah du->K aM ah->Q .normal du w'):∀fuel:Nat,XZ lo P w0 Γ0 n aF bj bJ aO s K Q fuel/\XX fE lo P w0 Γ0 n aF bj bJ aO s K Q fuel:=by
 obtain⟨hlen,gr⟩:=Ed _ _ _ fk;simp only[ev] at gr;have jw:=bP.back;have nv:∀i,i<aF.size->∃o cg,aF[aO i]? =some o/\bj[i]? =some cg/\sL P n mu aF (aO i) o=some cg:=fun i hi=>by
  have ag:=bP.lt i hi;obtain⟨cg,U,af⟩:=gr (aO i) (aF[aO i]) (by simp[ag]);exact⟨_,cg,by simp[ag],by rw[bP.get i hi];exact U,af⟩
 have tK:bj.length=bJ.length:=by rw[bP.len,bP.za]
 intro fuel;have fin:∀(a8:Array Bool)(a:Act)(w:World)(Γ:Env)(p:Nat)(val:Nat->V)(H:List (Nat×(Mem->Prop)))(c9:aH)(M:Mem),(∀i,i<aF.size->a8.getD i true=true)->
  p<=aF.size->(∀i,p<=i->i<aF.size->a8.getD (aO i) true=false)->(∀t,aY c9 t=aY (bM bj val (fun _=>true) s p) t)->
  ((p=aF.size/\K c9 M)∨∃o l,bj[p]? =some o/\bJ[p]? =some (some l)/\hr P false o c9 M (fun aM ah=>kE H l ah/\l8 P (bj.drop (p+1)) (bJ.drop (p+1)) (p+1) H aM ah K))->
  cA w0 Γ0 n w Γ (bM bj val (fun i=>a8.getD (aO i) true) s p) M a->Q .normal a w:=by
  intro a8 a w Γ p val H c9 M d9 ax ex jy hh bh;have p5:p=aF.size:=by
   rcases mG p aF.size with bw|o5
   . have:=ex p (cF _) bw
     rw[d9 _ (bP.lt p bw)] at this;cases this
   . omega
  rcases hh with⟨_,iR⟩|⟨o,l,az,_⟩
  . refine gq c9 M a w Γ ⟨bh.fY,fun t=>?_,bh.size,bh.defers,bh.ext⟩ iR
    rw[jy t,hb (val':=val) (L':=fun i=>a8.getD (aO i) true) (s0':=s) p rfl fun i hi _=>⟨(d9 _ (bP.lt i (by omega))).symm,fun _=>rfl⟩];exact bh.gM t
  . have:=(bn.1 az).1
    have:=bP.len;omega
 induction fuel with
 |zero=>
  refine⟨?_,?_⟩
  . intro a8 a w Γ p val H c9 M mj f9 de h_ ax ex l1 f8 jy hh bh
    have d9:∀i,i<aF.size->a8.getD i true=true:=fun i hi=>by
     have a4:(c1 aF.size).countP (fun i=>!a8.getD i true)=0:=by omega
     rw[List.countP_eq_zero] at a4;have:=a4 i (jY.2 hi);simpa using this
    have ri:Region.ready .any aF a8=[]:=by
     rw[List.eq_nil_iff_forall_not_mem];intro j ap;obtain⟨U,o,af,_⟩:=mem_ready.1 ap;rw[d9 j (la.1 af).1] at U;cases U
    exact⟨ri,fin a8 a w Γ p val H c9 M d9 ax ex jy hh bh⟩
  . intro a8 a w Γ p val H c9 M d1 h0 d2 g9 cU eW C7 mj f9 de h_ mW o0 q1 Lw w8 pS fa ex l1 f8 jy hw bh
    have a4:(c1 aF.size).countP (fun i=>!a8.getD i true)=0:=by omega
    rw[List.countP_eq_zero] at a4;have U:=a4 (aO p) (jY.2 (bP.lt p (by omega)));rw[ex p (cF _) (by omega) (by omega)] at U;exact absurd rfl U
 |succ fuel bq=>
  refine⟨?_,?_⟩
  . intro a8 a w Γ p val H c9 M mj f9 de h_ ax ex l1 f8 jy hh bh
    have fD:∀i b iM,i<aF.size->a8.getD i b=a8.getD i iM:=fun i b iM hi=>by simp[f9,hi]
    have ns:∀i,i<aF.size->a8.getD i true=false->(c1 aF.size).countP (fun j=>!(a8.setIfInBounds i true).getD j true)<=fuel:=fun i hi hu=>by
     have:=A6 (p:=fun j=>!a8.getD j true) (p':=fun j=>!(a8.setIfInBounds i true).getD j true) (i:=i) (by simp only[hu];rfl) (by simp[f9,hi]) (fun j ap=>by simp only[getD_set_ne true (gi ap)]) aF.size;rw[if_pos hi] at this;omega
    have nr:∀i o,aF[i]? =some o->(∀e∈o.after,Region.binds .any e=true->a8.getD e.on false=true)->
     (∀k o,aF[k]? =some o->(a8.setIfInBounds i true).getD k true=true->∀e∈o.after,Region.binds .any e=true->(a8.setIfInBounds i true).getD e.on true=true):=fun i o az al k o' ee ao e he aj=>by
     have zy:k<aF.size:=(la.1 ee).1;have bw:e.on<aF.size:=by have:=n1 aF.toList 0 jw k o' e (by simpa using ee) he aj;omega
     have key:a8.getD e.on true=true->(a8.setIfInBounds i true).getD e.on true=true:=fun h=>by
      by_cases ra:i=e.on
      . subst ra;simp[f9,bw]
      . rw[getD_set_ne true ra];exact h
     by_cases gx:k=i
     . subst gx
       rw[az] at ee;simp only[aV] at ee;subst ee;exact key ((fD _ _ _ bw).trans (al e he aj))
     . rw[getD_set_ne true (gi gx)] at ao
       exact key (de k o' ee ao e he aj)
    refine⟨fun ri=>?_,fun aE hi=>?_⟩
    . have d9:∀m i,i<m->i<aF.size->a8.getD i true=true:=by
       intro m;induction m with
       |zero=>intro i h;exact absurd h (fb i)
       |succ m xQ=>
        intro i xk hi;cases hu:a8.getD i true with
        |true=>rfl
        |false=>
         have al:i∈Region.ready .any aF a8:=mem_ready.2 ⟨hu,aF[i],by simp[hi],fun e he aj=>by
          have bw:e.on<i:=by have:=n1 aF.toList 0 jw i aF[i] e (by simp[hi]) he aj;omega
          exact(fD _ _ _ (by omega)).trans (xQ e.on (by omega) (by omega))⟩;rw[ri] at al;cases al
      exact fin a8 a w Γ p val H c9 M (fun i hi=>d9 (i+1) i (by omega) hi) ax ex jy hh bh
    . obtain⟨hu,o,az,al⟩:=mem_ready.1 hi
      have mU:aE<aF.size:=(la.1 az).1;obtain⟨i,fv,rfl⟩:=bP.yp aE mU;obtain⟨o',cg,ee,ff,pg⟩:=nv i fv;rw[az] at ee;simp only[aV] at ee;subst ee;have lR:∀j,is aF j (aO i)->a8.getD j true=true:=fun j ap=>
       r5 jw (L:=fun j=>a8.getD j true) de (aO i+1) (aO i) (by omega) o az (fun e he aj=>by
        have bw:e.on<aO i:=by have:=n1 aF.toList 0 jw (aO i) o e (by simpa using az) he aj;omega
        exact(fD _ _ _ (by omega)).trans (al e he aj)) j ap;have mi:∀k,k<aF.size->a8.getD k true=true->∀j,is aF j k->a8.getD j true=true:=fun k ao g4 j ap=>by
       obtain⟨q,aG,rfl⟩:=bP.yp k ao;obtain⟨ok,_,bR,_⟩:=nv q aG;exact r5 jw (L:=fun j=>a8.getD j true) de (aO q+1) (aO q) (by omega) ok bR (de (aO q) ok bR g4) j ap
      have eV:∀j,j<aF.size->j≠i->(a8.setIfInBounds (aO i) true).getD (aO j) true=a8.getD (aO j) true:=fun j ap ez=>
       getD_set_ne true fun e=>ez (bP.inj j i ap fv e.symm);have mY:(a8.setIfInBounds (aO i) true).getD (aO i) true=true:=by simp[f9,bP.lt i fv]
      have jg:∀k y,bj[k]? =some y->jt bj k=y.dst:=fun k y aD=>by simp only[jt,aD]
      have sl:∀k t,k<aF.size->jt bj k=some t->∃y,bj[k]? =some y/\y.dst=some t:=fun k t ao aw=>by
       obtain⟨_,y,_,aD,_⟩:=nv k ao;exact⟨y,aD,by rw[<-jg k y aD];exact aw⟩
      by_cases o7:i<p
      .
       obtain⟨PE,q4,tD,u6⟩:=l1 i o7 hu;rw[ff] at q4;simp only[aV] at q4;subst q4;obtain⟨tM,vj⟩:=bP.still i cg ff tD;have ks:∀t∈cg.cK,aY (bM bj val (fun _=>true) s i) t=aY (bM bj val (fun i=>a8.getD (aO i) true) s p) t:=fun t aT=>by
        have a6:bM bj val (fun k=>decide (k<i)) s p=bM bj val (fun k=>decide (k<i)) s i:=r4 p (by omega) fun j U _=>by simp;omega
        have ba:aY (bM bj val (fun _=>true) s i) t=aY (bM bj val (fun k=>decide (k<i)) s i) t:=hb i rfl fun j ap _=>⟨by simp[ap],fun _=>rfl⟩;rw[ba,<-a6];refine hb p rfl fun k ao fw=>⟨?_,fun _=>rfl⟩;obtain⟨y,aD,l3⟩:=sl k t (by omega) fw;rcases Nat.lt_trichotomy k i with bw|heq|tF
        . rw[decide_eq_true bw]
          rcases bP.apart k i y cg bw fv aD ff with aj|eU
          . exact(lR _ aj).symm
          . exact absurd aT ((lk eU).1 t l3)
        . subst heq
          rw[hu];simp
        . rw[decide_eq_false (by omega)]
          rcases bP.apart i k cg y tF (by omega) ff aD with aj|eU
          . cases ag:a8.getD (aO k) true with
            |false=>rfl
            |true=>rw[mi _ (bP.lt k (by omega)) ag _ aj] at hu;cases hu
          . exact absurd aT ((lk eU).2.2 t l3)
       have xg:=u6.move tM ks;refine wh az pg bh xg ?_;rintro aM ah du w' Γ' cm ⟨k0,rfl⟩;refine bq.1 (a8.setIfInBounds (aO i) true) du w' Γ' p val H c9 ah (ns _ (bP.lt i fv) hu) (by simp[f9]) (nr _ o az al) h_ ax (fun j ap ip=>?_) (fun j ap eo=>?_) f8 jy hh ?_
       . rw[eV j ip (by omega)];exact ex j ap ip
       . by_cases ez:j=i
         . subst ez;rw[mY] at eo;cases eo
         . rw[eV j (by omega) ez] at eo
           exact l1 j ap eo
       . refine⟨cm.fY,fun t=>?_,cm.size,cm.defers,cm.ext⟩
         have:=cm.gM t;rw[k0 t,g6] at this;have e:aY (bM bj val (fun j=>(a8.setIfInBounds (aO i) true).getD (aO j) true) s p) t=if cg.dst=some t then val i else aY (bM bj val (fun j=>a8.getD (aO j) true) s p) t:=by
          have u4:∀(L:Nat->Bool),aY (bM bj val L s p) t=aY (bM bj val (fun j=>if j<aF.size then L j else false) s p) t:=fun L=>hb p rfl fun j ap _=>⟨by rw[if_pos (by omega)],fun _=>rfl⟩;rw[u4,u4 (fun j=>a8.getD (aO j) true),<-jg i cg ff];refine E0 (i:=i) (by rw[if_pos fv];exact hu) (by rw[if_pos fv];exact mY) (fun j ez=>?_) p o7 fun j U af ay be=>?_
          . split
            . rename_i ap;exact eV j ap ez
            . rfl
          . rw[if_pos (by omega)]
            obtain⟨y,aD,l3⟩:=sl j t (by omega) ay;rw[jg i cg ff] at be;rcases bP.apart i j cg y U (by omega) ff aD with aj|eU
            . cases ag:a8.getD (aO j) true with
              |false=>rfl
              |true=>rw[mi _ (bP.lt j (by omega)) ag _ aj] at hu;cases hu
            . exact absurd l3 ((lk eU).2.1 t be)
         rw[e];exact this
      .
       rcases hh with⟨p5,_⟩|⟨hI,l,jN,n6,p8⟩
       . omega
       . have e2:p<aF.size:=by have:=(bn.1 jN).1;have:=bP.len;omega
         obtain⟨vk,pS,CH⟩:=bP.aN p hI l h_ jN n6;by_cases xj:i=p;rotate_left
         .
          have bw:p<i:=by omega
          rcases pS with pS|⟨C7,mW,d1,h0,d2,g9,eW,o0,q1,w8,pS⟩
          . have:=lR _ (pS i bw fv)
            rw[ex p (cF _) e2] at this;cases this
          . have ve:i=p+1:=by
             rcases mG (p+1) i with h|h
             . have:=lR _ (pS i h fv).1
               rw[ex p (cF _) e2] at this;cases this
             . omega
            subst ve;rw[ff] at q1;simp only[aV] at q1;subst q1;rw[o0] at jN;simp only[aV] at jN;subst jN;have rk:cA w0 Γ0 n w _ (bM bj val (fun i=>a8.getD (aO i) true) s p) (M++[.dead]) a:=bh.qe (bh.fY.GR 0 (B:=.dead) ⟨rfl,rfl⟩) (Ext.ghost w Γ _);have Df:hr P false ⟨some d2,.alloc g9,false,none⟩ (bM bj val (fun i=>a8.getD (aO i) true) s p) (M++[.dead]) (fun aM ah=>aM=eK (bM bj val (fun i=>a8.getD (aO i) true) s p) d2 (.ptr (M.length+1) 0)/\ah=M++[.dead,.box g9]):=by
             show _/\_;exact⟨by simp[bA],by simp⟩
            refine wh az pg rk Df ?_;rintro aM ah du w' Γ' cm ⟨rfl,rfl⟩;have aEK:∀t,aY (eK (bM bj val (fun i=>(a8.setIfInBounds (aO (p+1)) true).getD (aO i) true) s p) d2 (.ptr (M.length+1) 0)) t=aY (eK (bM bj val (fun i=>a8.getD (aO i) true) s p) d2 (.ptr (M.length+1) 0)) t:=fun t=>by
             rw[l5,l5];split
             . rfl
             . exact hb p rfl fun j ap _=>⟨eV j (by omega) (by omega),fun _=>rfl⟩
            refine bq.2 (a8.setIfInBounds (aO (p+1)) true) du w' Γ' p val H c9 M d1 h0 d2 g9 l eW C7 (ns _ (bP.lt _ fv) hu) (by simp[f9]) (nr _ o az al) h_ mW o0 ff n6 w8 (fun q U af=>(pS q U af).1) mY (fun j ap ip cr=>?_) (fun j ap eo=>?_) f8 jy p8 ⟨cm.fY,fun t=>?_,cm.size,cm.defers,cm.ext⟩
            . rw[eV j ip cr];exact ex j ap ip
            . rw[eV j (by omega) (by omega)] at eo
              exact l1 j ap eo
            . rw[aEK t];exact cm.gM t
         subst xj;rw[ff] at jN;simp only[aV] at jN;subst jN;have ks:∀t∈cg.cK,aY c9 t=aY (bM bj val (fun i=>a8.getD (aO i) true) s i) t:=fun t aT=>by
          rw[jy t];refine hb i rfl fun k ao fw=>⟨?_,fun _=>rfl⟩;obtain⟨y,aD,l3⟩:=sl k t (by omega) fw;rcases bP.apart k i y cg ao fv aD ff with aj|eU
          . exact(lR _ aj).symm
          . exact absurd aT ((lk eU).1 t l3)
         have Df:hr P false cg (bM bj val (fun i=>a8.getD (aO i) true) s i) M (fun aM ah=>∃v,aM=bA (bM bj val (fun i=>a8.getD (aO i) true) s i) cg.dst v/\(kE H l ah/\l8 P (bj.drop (i+1)) (bJ.drop (i+1)) (i+1) H (bA c9 cg.dst v) ah K)):=by
          obtain⟨dst,op,bx,g⟩:=cg;simp only at vk;subst vk;exact aNy (s:=c9) (fun t aT=>ks t (by simpa[bt.cK] using aT)) p8
         refine wh az pg bh Df ?_;rintro aM ah du w' Γ' cm ⟨v,rfl,xA,gS⟩;have q8:∀m,m<=i->∀t(L:Nat->Bool),aY (bM bj (fun j=>if j=i then v else val j) L s m) t=aY (bM bj val L s m) t:=fun m hm t L=>
          hb m rfl fun j ap _=>⟨rfl,fun _=>if_neg (by omega)⟩;obtain⟨p',val',fX,ow,bH,b8,dS,fr,fs,ia,mZ⟩:=Bn (P:=P) (M:=ah) (K:=K) (s0:=s) tK bP.Ax (bj.length -(i+1)) (i+1) (fun j=>if j=i then v else val j) H (bA c9 cg.dst v) rfl (by rw[bP.len];omega) (by
          intro j x ap ab aC aB aw cz ag;by_cases ez:j=i
          . subst ez
            rw[n6] at aC;simp at aC
          . have:=f8 j x (by omega) ab aC aB aw cz ag
            show gj P x _ cz (if j=i then v else val j);rw[if_neg ez];exact this.move (bP.still j x ab aC).1 fun t _=>(q8 j (by omega) t _).symm) (fun t=>by
          simp only[bM,cond_true,if_true,jg i cg ff];rw[g6,g6,jy t,q8 i (cF _) t]) gS;rw[bP.len] at b8;have pl:val' i=v:=(dS i (by omega)).trans (if_pos rfl);have j_:∀m,m<=i->∀t(L:Nat->Bool),aY (bM bj val' L s m) t=aY (bM bj val L s m) t:=fun m hm t L=>
          hb m rfl fun j ap _=>⟨rfl,fun _=>(dS j (by omega)).trans (if_neg (by omega))⟩;refine bq.1 (a8.setIfInBounds (aO i) true) du w' Γ' p' val' fX ow ah (ns _ (bP.lt i fv) hu) (by simp[f9]) (nr _ o az al) (by omega) b8 (fun j ap ip=>?_) (fun j ap eo=>?_) fr fs ?_ ?_
         . rw[eV j ip (by omega)];exact ex j (by omega) ip
         . rcases Nat.lt_trichotomy j i with bw|heq|tF
           . rw[eV j (by omega) (by omega)] at eo
             obtain⟨x,ab,hj,_⟩:=l1 j bw eo;rcases CH j x bw ab with aj|⟨_,_,_,d1,h0,_,_,_,o0,_⟩|⟨aW,a9,bN,c5⟩
             . rw[lR _ aj] at eo;cases eo
             . rw[ab] at o0
               simp only[aV] at o0;have:=(bP.still j x ab hj).1;rw[o0] at this;cases this
             . refine⟨x,ab,hj,?_⟩
               have:=f8 j x bw ab hj a9 bN ah (Ec xA j aW);rw[(dS j (by omega)).trans (if_neg (by omega))];exact this.move (bP.still j x ab hj).1 fun t _=>(j_ j (by omega) t _).symm
           . subst heq
             rw[mY] at eo;cases eo
           . exact ia j (by omega) ap
         . rcases mZ with⟨U,af⟩|h
           . exact .inl ⟨U.trans bP.len,af⟩
           . exact .inr h
         . refine⟨cm.fY,fun t=>?_,cm.size,cm.defers,cm.ext⟩
           have a6:bM bj val' (fun j=>(a8.setIfInBounds (aO i) true).getD (aO j) true) s p'=bM bj val' (fun j=>(a8.setIfInBounds (aO i) true).getD (aO j) true) s (i+1):=
            r4 p' (by omega) fun j U af=>by rw[eV j (by omega) (by omega)];exact ex j (by omega) (by omega)
           rw[a6];simp only[bM,mY,cond_true,jg i cg ff,pl];have ba:aY (bM bj val' (fun j=>(a8.setIfInBounds (aO i) true).getD (aO j) true) s i) t=aY (bM bj val (fun j=>a8.getD (aO j) true) s i) t:=by
            rw[j_ i (cF _) t];exact hb i rfl fun j ap _=>⟨eV j (by omega) (by omega),fun _=>rfl⟩
           rw[g6,ba,<-g6];exact cm.gM t
  . intro a8 a w Γ p val H c9 M d1 h0 d2 g9 cU eW C7 mj f9 de h_ mW o0 q1 Lw w8 pS fa ex l1 f8 jy hw bh
    have fD:∀i b iM,i<aF.size->a8.getD i b=a8.getD i iM:=fun i b iM hi=>by simp[f9,hi]
    have ns:∀i,i<aF.size->a8.getD i true=false->(c1 aF.size).countP (fun j=>!(a8.setIfInBounds i true).getD j true)<=fuel:=fun i hi hu=>by
     have:=A6 (p:=fun j=>!a8.getD j true) (p':=fun j=>!(a8.setIfInBounds i true).getD j true) (i:=i) (by simp only[hu];rfl) (by simp[f9,hi]) (fun j ap=>by simp only[getD_set_ne true (gi ap)]) aF.size;rw[if_pos hi] at this;omega
    have nr:∀i o,aF[i]? =some o->(∀e∈o.after,Region.binds .any e=true->a8.getD e.on false=true)->
     (∀k o,aF[k]? =some o->(a8.setIfInBounds i true).getD k true=true->∀e∈o.after,Region.binds .any e=true->(a8.setIfInBounds i true).getD e.on true=true):=fun i o az al k o' ee ao e he aj=>by
     have zy:k<aF.size:=(la.1 ee).1;have bw:e.on<aF.size:=by have:=n1 aF.toList 0 jw k o' e (by simpa using ee) he aj;omega
     have key:a8.getD e.on true=true->(a8.setIfInBounds i true).getD e.on true=true:=fun h=>by
      by_cases ra:i=e.on
      . subst ra;simp[f9,bw]
      . rw[getD_set_ne true ra];exact h
     by_cases gx:k=i
     . subst gx
       rw[az] at ee;simp only[aV] at ee;subst ee;exact key ((fD _ _ _ bw).trans (al e he aj))
     . rw[getD_set_ne true (gi gx)] at ao
       exact key (de k o' ee ao e he aj)
    have xx:a8.getD (aO p) true=false:=ex p (cF _) (by omega) (by omega);refine⟨fun ri=>?_,fun aE hi=>?_⟩
    . have d9:∀m i,i<m->i<aF.size->a8.getD i true=true:=by
       intro m;induction m with
       |zero=>intro i h;exact absurd h (fb i)
       |succ m xQ=>
        intro i xk hi;cases hu:a8.getD i true with
        |true=>rfl
        |false=>
         have al:i∈Region.ready .any aF a8:=mem_ready.2 ⟨hu,aF[i],by simp[hi],fun e he aj=>by
          have bw:e.on<i:=by have:=n1 aF.toList 0 jw i aF[i] e (by simp[hi]) he aj;omega
          exact(fD _ _ _ (by omega)).trans (xQ e.on (by omega) (by omega))⟩;rw[ri] at al;cases al
      rw[d9 (aO p+1) (aO p) (by omega) (bP.lt p (by omega))] at xx;cases xx
    . obtain⟨hu,o,az,al⟩:=mem_ready.1 hi
      have mU:aE<aF.size:=(la.1 az).1;obtain⟨i,fv,rfl⟩:=bP.yp aE mU;obtain⟨o',cg,ee,ff,pg⟩:=nv i fv;rw[az] at ee;simp only[aV] at ee;subst ee;have lR:∀j,is aF j (aO i)->a8.getD j true=true:=fun j ap=>
       r5 jw (L:=fun j=>a8.getD j true) de (aO i+1) (aO i) (by omega) o az (fun e he aj=>by
        have bw:e.on<aO i:=by have:=n1 aF.toList 0 jw (aO i) o e (by simpa using az) he aj;omega
        exact(fD _ _ _ (by omega)).trans (al e he aj)) j ap;have mi:∀k,k<aF.size->a8.getD k true=true->∀j,is aF j k->a8.getD j true=true:=fun k ao g4 j ap=>by
       obtain⟨q,aG,rfl⟩:=bP.yp k ao;obtain⟨ok,_,bR,_⟩:=nv q aG;exact r5 jw (L:=fun j=>a8.getD j true) de (aO q+1) (aO q) (by omega) ok bR (de (aO q) ok bR g4) j ap
      have eV:∀j,j<aF.size->j≠i->(a8.setIfInBounds (aO i) true).getD (aO j) true=a8.getD (aO j) true:=fun j ap ez=>
       getD_set_ne true fun e=>ez (bP.inj j i ap fv e.symm);have mY:(a8.setIfInBounds (aO i) true).getD (aO i) true=true:=by simp[f9,bP.lt i fv]
      have jg:∀k y,bj[k]? =some y->jt bj k=y.dst:=fun k y aD=>by simp only[jt,aD]
      have sl:∀k t,k<aF.size->jt bj k=some t->∃y,bj[k]? =some y/\y.dst=some t:=fun k t ao aw=>by
       obtain⟨_,y,_,aD,_⟩:=nv k ao;exact⟨y,aD,by rw[<-jg k y aD];exact aw⟩
      have aEO:d1≠d2:=by
       rcases bP.apart p (p+1) _ _ (by omega) mW o0 q1 with aj|eU
       . rw[mi _ (bP.lt _ mW) fa _ aj] at xx;cases xx
       . intro e
         exact(lk eU).2.1 d1 rfl (by rw[e])
      have aAx:∀i y,i<p->a8.getD (aO i) true=false->bj[i]? =some y->y.dst≠some d2/\d2∉y.cK:=fun i y o7 kZ aD=>by
       rcases bP.apart i (p+1) y _ (by omega) mW aD q1 with aj|eU
       . rw[mi _ (bP.lt _ mW) fa _ aj] at kZ;cases kZ
       . exact⟨fun e=>(lk eU).2.1 d2 e rfl,(lk eU).2.2 d2 rfl⟩
      by_cases o7:i<p
      .
       obtain⟨PE,q4,tD,u6⟩:=l1 i o7 hu;rw[ff] at q4;simp only[aV] at q4;subst q4;obtain⟨tM,vj⟩:=bP.still i cg ff tD;obtain⟨o2,hU⟩:=aAx i cg o7 hu ff;have ks:∀t∈cg.cK,aY (bM bj val (fun _=>true) s i) t=aY (eK (bM bj val (fun i=>a8.getD (aO i) true) s p) d2 (.ptr (M.length+1) 0)) t:=fun t aT=>by
        rw[l5,if_neg (fun e=>hU (by rw[<-e];exact aT))];have a6:bM bj val (fun k=>decide (k<i)) s p=bM bj val (fun k=>decide (k<i)) s i:=r4 p (by omega) fun j U _=>by simp;omega
        have ba:aY (bM bj val (fun _=>true) s i) t=aY (bM bj val (fun k=>decide (k<i)) s i) t:=hb i rfl fun j ap _=>⟨by simp[ap],fun _=>rfl⟩;rw[ba,<-a6];refine hb p rfl fun k ao fw=>⟨?_,fun _=>rfl⟩;obtain⟨y,aD,l3⟩:=sl k t (by omega) fw;rcases Nat.lt_trichotomy k i with bw|heq|tF
        . rw[decide_eq_true bw]
          rcases bP.apart k i y cg bw fv aD ff with aj|eU
          . exact(lR _ aj).symm
          . exact absurd aT ((lk eU).1 t l3)
        . subst heq
          rw[hu];simp
        . rw[decide_eq_false (by omega)]
          rcases bP.apart i k cg y tF (by omega) ff aD with aj|eU
          . cases ag:a8.getD (aO k) true with
            |false=>rfl
            |true=>rw[mi _ (bP.lt k (by omega)) ag _ aj] at hu;cases hu
          . exact absurd aT ((lk eU).2.2 t l3)
       have xg:=(u6.app tM (vj.resolve_right fun q=>by rw[C7] at q;cases q.1) [.dead,.box g9]).move tM ks;refine wh az pg bh xg ?_;rintro aM ah du w' Γ' cm ⟨k0,rfl⟩;refine bq.2 (a8.setIfInBounds (aO i) true) du w' Γ' p val H c9 M d1 h0 d2 g9 cU eW C7 (ns _ (bP.lt i fv) hu) (by simp[f9]) (nr _ o az al) h_ mW o0 q1 Lw w8 pS (by rw[eV (p+1) mW (by omega)];exact fa) (fun j ap ip cr=>?_) (fun j ap eo=>?_) f8 jy hw ⟨cm.fY,fun t=>?_,cm.size,cm.defers,cm.ext⟩
       . rw[eV j ip (by omega)];exact ex j ap ip cr
       . by_cases ez:j=i
         . subst ez;rw[mY] at eo;cases eo
         . rw[eV j (by omega) ez] at eo
           exact l1 j ap eo
       . have:=cm.gM t
         rw[k0 t,g6,l5] at this;rw[l5];have e:aY (bM bj val (fun j=>(a8.setIfInBounds (aO i) true).getD (aO j) true) s p) t=if cg.dst=some t then val i else aY (bM bj val (fun j=>a8.getD (aO j) true) s p) t:=by
          have u4:∀(L:Nat->Bool),aY (bM bj val L s p) t=aY (bM bj val (fun j=>if j<aF.size then L j else false) s p) t:=fun L=>hb p rfl fun j ap _=>⟨by rw[if_pos (by omega)],fun _=>rfl⟩;rw[u4,u4 (fun j=>a8.getD (aO j) true),<-jg i cg ff];refine E0 (i:=i) (by rw[if_pos fv];exact hu) (by rw[if_pos fv];exact mY) (fun j ez=>?_) p o7 fun j U af ay be=>?_
          . split
            . rename_i ap;exact eV j ap ez
            . rfl
          . rw[if_pos (by omega)]
            obtain⟨y,aD,l3⟩:=sl j t (by omega) ay;rw[jg i cg ff] at be;rcases bP.apart i j cg y U (by omega) ff aD with aj|eU
            . cases ag:a8.getD (aO j) true with
              |false=>rfl
              |true=>rw[mi _ (bP.lt j (by omega)) ag _ aj] at hu;cases hu
            . exact absurd l3 ((lk eU).2.1 t be)
         rw[e];by_cases aT:t=d2
         . rw[if_pos aT]
           rw[if_neg (fun e=>o2 (by rw[e,aT])),if_pos aT] at this;exact this
         . rw[if_neg aT]
           rw[if_neg aT] at this;exact this
      .
       have xj:i=p:=by
        rcases mG p i with bw|o5
        . by_cases ve:i=p+1
          . subst ve;rw[fa] at hu;cases hu
          . have:=lR _ (pS i (by omega) fv)
            rw[xx] at this;cases this
        . omega
       subst xj;rw[ff] at o0;simp only[aV] at o0;subst o0;refine Xd az pg bh (id:=M.length) (by simp) ?_;intro du w' Γ' cm;have aD5:(M++[a2.dead,.box g9]).set M.length (.box h0)=M++[.box h0]++[.box g9]:=by simp
       rw[aD5] at cm;have oa:kE H cU (M++[.box h0])/\l8 P (bj.drop (i+1)) (bJ.drop (i+1)) (i+1) H (eK c9 d1 (.ptr M.length 0)) (M++[.box h0]) K:=hw;have mg:bj.drop (i+1)=bj[i+1]'(by rw[bP.len];omega)::bj.drop (i+1+1):=qx (by rw[bP.len];omega);have wM:bJ.drop (i+1)=bJ[i+1]'(by rw[bP.za];omega)::bJ.drop (i+1+1):=qx (by rw[bP.za];omega);have aDG:=(bn.1 q1).2;have aDI:=(bn.1 w8).2;rw[mg,wM,aDG,aDI] at oa;have p8:kE H eW (M++[.box h0]++[.box g9])/\l8 P (bj.drop (i+1+1)) (bJ.drop (i+1+1)) (i+1+1) H (eK (eK c9 d1 (.ptr M.length 0)) d2 (.ptr (M++[a2.box h0]).length 0)) (M++[.box h0]++[.box g9]) K:=oa.2;obtain⟨xA,gS⟩:=p8;have aF4:(M++[a2.box h0]).length=M.length+1:=by simp
       rw[aF4] at gS;obtain⟨_,_,aEt⟩:=bP.aN (i+1) _ eW (by omega) q1 w8;have q8:∀m,m<=i->∀t(L:Nat->Bool),aY (bM bj (fun j=>if j=i then .ptr M.length 0 else if j=i+1 then .ptr (M.length+1) 0 else val j) L s m) t=aY (bM bj val L s m) t:=fun m hm t L=>
        hb m rfl fun j ap _=>⟨rfl,fun _=>by rw[if_neg (by omega),if_neg (by omega)]⟩;have Tj:∀t(L:Nat->Bool),L i=true->L (i+1)=true->aY (bM bj (fun j=>if j=i then .ptr M.length 0 else if j=i+1 then .ptr (M.length+1) 0 else val j) L s (i+1+1)) t=if t=d2 then .ptr (M.length+1) 0 else if t=d1 then .ptr M.length 0 else aY (bM bj val L s i) t:=fun t L CD LG=>by
        simp only[bM,CD,LG,cond_true,jg i _ ff,jg (i+1) _ q1,g6,aV,if_true,if_neg (show¬i+1=i by omega),eq_comm (a:=d2),eq_comm (a:=d1)];rw[q8 i (cF _) t]
       obtain⟨p',val',fX,ow,bH,b8,dS,fr,fs,ia,mZ⟩:=Bn (P:=P) (M:=M++[a2.box h0]++[a2.box g9]) (K:=K) (s0:=s) tK bP.Ax (bj.length -(i+1+1)) (i+1+1) (fun j=>if j=i then .ptr M.length 0 else if j=i+1 then .ptr (M.length+1) 0 else val j) H (eK (eK c9 d1 (.ptr M.length 0)) d2 (.ptr (M.length+1) 0)) rfl (by rw[bP.len];omega) (by
        intro j x ap ab aC aB aw cz ag;by_cases ez:j=i
        . subst ez
          rw[Lw] at aC;simp at aC
        by_cases TC:j=i+1
        . subst TC
          rw[w8] at aC;simp at aC
        have:=f8 j x (by omega) ab aC aB aw cz ag;show gj P x _ cz (if j=i then _ else if j=i+1 then _ else val j);rw[if_neg ez,if_neg TC];exact this.move (bP.still j x ab aC).1 fun t _=>(q8 j (by omega) t _).symm) (fun t=>by
        rw[Tj t _ rfl rfl,l5,l5,jy t]) gS;rw[bP.len] at b8;have j_:∀m,m<=i->∀t(L:Nat->Bool),aY (bM bj val' L s m) t=aY (bM bj val L s m) t:=fun m hm t L=>
        hb m rfl fun j ap _=>⟨rfl,fun _=>by rw[dS j (by omega),if_neg (by omega),if_neg (by omega)]⟩;have T4:(a8.setIfInBounds (aO i) true).getD (aO (i+1)) true=true:=by rw[eV (i+1) mW (by omega)];exact fa
       refine bq.1 (a8.setIfInBounds (aO i) true) du w' Γ' p' val' fX ow (M++[a2.box h0]++[a2.box g9]) (ns _ (bP.lt i fv) hu) (by simp[f9]) (nr _ o az al) (by omega) b8 (fun j ap ip=>?_) (fun j ap eo=>?_) fr fs ?_ ?_
       . rw[eV j ip (by omega)];exact ex j (by omega) ip (by omega)
       . by_cases zw:j<i
         . rw[eV j (by omega) (by omega)] at eo
           obtain⟨x,ab,hj,_⟩:=l1 j zw eo;rcases aEt j x (by omega) ab with aj|⟨U,_⟩|⟨aW,a9,bN,c5⟩
           . rw[mi _ (bP.lt _ mW) fa _ aj] at eo;cases eo
           . omega
           . refine⟨x,ab,hj,?_⟩
             have:=f8 j x zw ab hj a9 bN _ (Ec xA j aW);rw[dS j (by omega),if_neg (by omega),if_neg (by omega)];exact this.move (bP.still j x ab hj).1 fun t _=>(j_ j (by omega) t _).symm
         by_cases aFT:j=i
         . subst aFT
           rw[mY] at eo;cases eo
         by_cases tG:j=i+1
         . subst tG
           rw[T4] at eo;cases eo
         exact ia j (by omega) ap
       . rcases mZ with⟨U,af⟩|h
         . exact .inl ⟨U.trans bP.len,af⟩
         . exact .inr h
       . refine⟨cm.fY,fun t=>?_,cm.size,cm.defers,cm.ext⟩
         have a6:bM bj val' (fun j=>(a8.setIfInBounds (aO i) true).getD (aO j) true) s p'=bM bj val' (fun j=>(a8.setIfInBounds (aO i) true).getD (aO j) true) s (i+1+1):=
          r4 p' (by omega) fun j U af=>by rw[eV j (by omega) (by omega)];exact ex j (by omega) (by omega) (by omega)
         have ba:aY (bM bj val' (fun j=>(a8.setIfInBounds (aO i) true).getD (aO j) true) s (i+1+1)) t=aY (bM bj (fun j=>if j=i then .ptr M.length 0 else if j=i+1 then .ptr (M.length+1) 0 else val j) (fun j=>(a8.setIfInBounds (aO i) true).getD (aO j) true) s (i+1+1)) t:=
          hb _ rfl fun j ap _=>⟨rfl,fun _=>dS j ap⟩;have e3:aY (bM bj val (fun j=>(a8.setIfInBounds (aO i) true).getD (aO j) true) s i) t=aY (bM bj val (fun j=>a8.getD (aO j) true) s i) t:=
          hb i rfl fun j ap _=>⟨eV j (by omega) (by omega),fun _=>rfl⟩;rw[a6,ba,Tj t _ mY T4,e3];have:=cm.gM t;rw[l5,l5] at this;by_cases U:t=d2
         . have af:¬t=d1:=fun e=>aEO (by rw[<-e,U])
           rw[if_pos U];rw[if_neg af,if_pos U] at this;exact this
         . rw[if_neg U]
           by_cases af:t=d1
           . rw[if_pos af]
             rw[if_pos af] at this;exact this
           . rw[if_neg af]
             rw[if_neg af,if_neg U] at this;exact this
theorem aB_{id:Nat}{aF:Array Oper}{a_:List bt}{x:List bt×List (Option (List Nat))}{mu:List Nat}{Q:Exit->Act->World->Prop}{K:aH->Mem->Prop}(C1:P.follows .mixedOrders=true)(fk:pw P n mu aF 0 aF.toList=some a_){fE:Bool}(C0:Je fE aF a_=some x)
 (vr:cA w0 Γ0 n w Γ s M a)(zJ:l8 P x.1 x.2 0 [] s M K)(gq:∀aM ah du w' Γ',cA w0 Γ0 n w' Γ' aM ah du->K aM ah->Q .normal du w'):(Code.region id aF true).wp P Q a w:=by
 obtain⟨bj,bJ⟩:=x;obtain⟨aO,bP⟩:=aJe C0;simp only at zJ;obtain⟨hlen,gr⟩:=Ed _ _ _ fk;simp only[ev] at gr;have jw:=bP.back;have nv:∀i,i<aF.size->∃o cg,aF[aO i]? =some o/\bj[i]? =some cg/\sL P n mu aF (aO i) o=some cg:=fun i hi=>by
  have ag:=bP.lt i hi;obtain⟨cg,U,af⟩:=gr (aO i) (aF[aO i]) (by simp[ag]);exact⟨_,cg,by simp[ag],by rw[bP.get i hi];exact U,af⟩
 have tK:bj.length=bJ.length:=by rw[bP.len,bP.za]
 have main:=Ry (P:=P) (w0:=w0) (Γ0:=Γ0) (s:=s) (K:=K) fk bP gq;refine wp_region_any C1 ?_;have lY:cA w0 Γ0 n w.drew Γ s M a:=vr.qe vr.fY.drew (Ext.drew w Γ);obtain⟨p',val',fX,ow,_,b8,_,fr,fs,ia,mZ⟩:=Bn (P:=P) (M:=M) (K:=K) (s0:=s) tK bP.Ax bj.length 0 (fun _=>.undef) [] s (by omega) (fG _) (fun i o hi=>absurd hi (fb i)) (fun t=>rfl) (by simpa using zJ);rw[bP.len] at b8;have a7:∀i,i<aF.size->(Array.replicate aF.size false).getD i true=false:=fun i hi=>by simp[hi]
 refine(main aF.size).1 _ a w.drew Γ p' val' fX ow M ?_ (by simp) ?_ (fG _) b8 (fun i _ hi=>a7 _ (bP.lt i hi)) (fun i hi _=>ia i (fG _) hi) fr fs ?_ ?_
 . have:=List.countP_le_length (p:=fun i=>!(Array.replicate aF.size false).getD i true) (l:=c1 aF.size)
   simpa using this
 . intro k o az ao
   rw[a7 k (la.1 az).1] at ao;cases ao
 . rcases mZ with⟨U,af⟩|h
   . exact .inl ⟨U.trans bP.len,af⟩
   . exact .inr h
 . refine⟨lY.fY,fun t=>?_,lY.size,lY.defers,lY.ext⟩
   have e:bM bj val' (fun i=>(Array.replicate aF.size false).getD (aO i) true) s p'=bM bj val' (fun i=>(Array.replicate aF.size false).getD (aO i) true) s 0:=
    r4 p' (fG _) fun j _ ap=>a7 _ (bP.lt j (by omega));rw[e];exact lY.gM t
end
end Go.aQ
namespace Go.aQ
open Go.RowKit (Below)
section
variable{P:Program}{w0 w:World}{Γ0 Γ:Env}{M:Mem}{s ds:aH}{a:Act}{n:Nat}
theorem aIx{k:Nat}{bX:Bool}{x v:V}{M:Mem}{n:Nat}{B:a2}(gR:M[n]? =some .dead)(h:hn k bX x M=some v):hn k bX x (M.set n B)=some v:=by
 cases x<;>simp only[hn] at h⊢<;>first|exact h|skip
 case ptr id off=>
  cases bb:M[id]? with
  |none=>rw[bb] at h;cases h
  |some lf=>
   by_cases hi:n=id
   . subst hi;rw[gR] at bb;cases bb;rw[gR] at h;first|(cases h;done)|(cases mx<;>cases h)
   . rw[dx hi];exact h
 case fo id ver row off=>
  cases bb:M[id]? with
  |none=>rw[bb] at h;cases h
  |some lf=>
   by_cases hi:n=id
   . subst hi;rw[gR] at bb;cases bb;rw[gR] at h;first|(cases h;done)|(cases mx<;>cases h)
   . rw[dx hi];exact h
theorem aLj{k:Nat}{x:V}{r:List (List V)}{M:Mem}{n:Nat}{B:a2}(gR:M[n]? =some .dead)(h:eJ k M x=some r):eJ k (M.set n B) x=some r:=by
 cases x<;>simp only[eJ] at h⊢<;>first|exact h|skip
 case aX id _ _ _=>
  cases bb:M[id]? with
  |none=>rw[bb] at h;cases h
  |some lf=>
   by_cases hi:n=id
   . subst hi;rw[gR] at bb;cases bb;rw[gR] at h;first|(cases h;done)|(cases mx<;>cases h)
   . rw[dx hi];exact h
theorem aIj{x v:V}{M:Mem}{n:Nat}{B:a2}(gR:M[n]? =some .dead)(h:i0 x M=some v):i0 x (M.set n B)=some v:=by
 cases x<;>simp only[i0] at h⊢<;>first|exact h|skip
 case aX id _ _ _=>
  cases bb:M[id]? with
  |none=>rw[bb] at h;cases h
  |some lf=>
   by_cases hi:n=id
   . subst hi;rw[gR] at bb;cases bb;rw[gR] at h;first|(cases h;done)|(cases mx<;>cases h)
   . rw[dx hi];exact h
theorem aHC{k:Nat}{x i v:V}{M:Mem}{n:Nat}{B:a2}(gR:M[n]? =some .dead)(h:jj k x i M=some v):jj k x i (M.set n B)=some v:=by
 cases i<;>simp only[jj] at h⊢<;>first|exact h|skip
 case int qd q=>
  cases aw:decide (0<=q) with
  |false=>rw[aw] at h;cases h
  |true=>
   rw[aw] at h;simp only[cond_true] at h⊢;cases x<;>simp only at h⊢<;>first|exact h|skip
   case aX id _ _ _=>
    cases bb:M[id]? with
    |none=>rw[bb] at h;cases h
    |some lf=>
     by_cases hi:n=id
     . subst hi;rw[gR] at bb;cases bb;rw[gR] at h;first|(cases h;done)|(cases mx<;>cases h)
     . rw[dx hi];exact h
theorem aLU{k:Nat}{x v:V}{lo hi mx:Option V}{M:Mem}{n:Nat}{B:a2}(gR:M[n]? =some .dead)(h:g7 k x lo hi mx M=some v):g7 k x lo hi mx (M.set n B)=some v:=by
 cases x<;>simp only[g7] at h⊢<;>first|exact h|skip
 case aX id _ _ _=>
  cases bb:M[id]? with
  |none=>rw[bb] at h;cases mx<;>cases h
  |some lf=>
   by_cases hi:n=id
   . subst hi;rw[gR] at bb;cases bb;rw[gR] at h;first|(cases h;done)|(cases mx<;>cases h)
   . rw[dx hi];exact h
theorem aI4{c:fl}{m key:V}{r:Option V}{M:Mem}{n:Nat}{B:a2}(gR:M[n]? =some .dead)(h:m2 c M m key=some r):m2 c (M.set n B) m key=some r:=by
 unfold m2 at h⊢;cases ao:kw c key with
 |false=>rw[ao] at h;cases h
 |true=>
  rw[ao] at h;simp only[cond_true] at h⊢;cases m<;>simp only at h⊢<;>first|exact h|skip
  case map id=>
   cases bb:M[id]? with
   |none=>rw[bb] at h;cases h
   |some lf=>
    by_cases hi:n=id
    . subst hi;rw[gR] at bb;cases bb;rw[gR] at h;first|(cases h;done)|(cases mx<;>cases h)
    . rw[dx hi];exact h
theorem aKg{o:dK}{v:V}{M:Mem}{n:Nat}{B:a2}(gR:M[n]? =some .dead)(h:hL o s M=some v):hL o s (M.set n B)=some v:=by
 cases o<;>simp only[hL] at h⊢<;>first|exact h|exact aIx gR h|exact aIj gR h|exact aHC gR h|exact aLU gR h|skip
 case qT x=>
  unfold r6 at h⊢;cases al:eJ 1 M (aN s x) with
  |none=>rw[al] at h;cases h
  |some r=>rw[al] at h;rw[aLj gR al];exact h
 case lookup c z bX ok m k=>
  unfold oh at h⊢;cases al:m2 c M (aN s m) (aN s k) with
  |none=>rw[al] at h;cases h
  |some r=>rw[al] at h;rw[aI4 gR al];exact h
theorem gj.aNg{o:bt}{v:V}(hm:o.op.hl=false)(ar:o.op.jz=false)(h:gj P o s M v){n:Nat}{B:a2}(gR:M[n]? =some .dead):gj P o s (M.set n B) v:=by
 obtain⟨dst,op,bx,g⟩:=o;have key:∀(s1 r:aH),wpOp P false op dst bx s1 M (kO r M)->wpOp P false op dst bx s1 (M.set n B) (kO r (M.set n B)):=fun s1 r h=>by
  rw[yB hm ar] at h⊢;obtain⟨dV,U,af,ay,_⟩:=h;exact⟨dV,aKg gR U,af,ay,rfl⟩
 have DL:∀(s1 r:aH),kO r M s1 M->kO r (M.set n B) s1 (M.set n B):=fun s1 r h=>⟨h.1,rfl⟩;unfold gj hr at h⊢;cases g with
 |none=>exact key _ _ h
 |some np=>
  obtain⟨g,gN⟩:=np;simp only at h⊢;cases aB:aY s g<;>rw[aB] at h<;>(try simp only at h)<;>(try simp only)<;>first|exact h.elim|skip
  case bool b=>
   cases gN<;>cases b<;>first|exact key _ _ h|exact DL _ _ h
  case tuple vs=>
   cases vs with
   |nil=>exact DL _ _ h
   |cons _ _=>exact h.elim
theorem M6{a_:List bt}{bJ:List (Option (List Nat))}{K:aH->Mem->Prop}{s0:aH}{z:List V}{n c:Nat}(hlen:a_.length=bJ.length)(sj:c<a_.length)(zs:∃l,bJ[c]? =some (some l))(bh:∀(i:Nat)(o:bt),a_[i]? =some o->bJ[i]? =some none->o.op.hl=false/\(o.op.jz=false∨o.op.xR=true)):
 ∀(m q:Nat)(val:Nat->V)(H:List (Nat×(Mem->Prop)))(s:aH),c -q=m->q<=c->uC P a_ bJ val s0 H q->(∀t,aY s t=aY (bM a_ val (fun _=>true) s0 q) t)->nT P z n c (a_.drop q) (bJ.drop q) q H s M K->
 ∃(p:Nat)(val':Nat->V)(fX:List (Nat×(Mem->Prop)))(c9:aH),q<=p/\p<=c/\(∀i,i<q->val' i=val i)/\uC P a_ bJ val' s0 fX p/\(∀t,aY c9 t=aY (bM a_ val' (fun _=>true) s0 p) t)/\
  (∀i,q<=i->i<p->∃o,a_[i]? =some o/\bJ[i]? =some none/\gj P o (bM a_ val' (fun _=>true) s0 i) M (val' i))/\
  ∃o l,a_[p]? =some o/\bJ[p]? =some (some l)/\nT P z n c (o::a_.drop (p+1)) (some l::bJ.drop (p+1)) p fX c9 M K
 |0,q,val,H,s,hm,aG,f8,ak,h=>by
  have e:q=c:=by omega
  subst e;obtain⟨l,ag⟩:=zs;have mg:a_.drop q=a_[q]::a_.drop (q+1):=qx sj;have wM:bJ.drop q=bJ[q]'(by omega)::bJ.drop (q+1):=qx (by omega);have gS:bJ[q]'(by omega)=some l:=(bn.1 ag).2;rw[mg,wM,gS] at h;exact⟨q,val,H,s,cF _,cF _,fun _ _=>rfl,f8,ak,fun i U af=>by omega,_,l,by simp,ag,h⟩
 |m+1,q,val,H,s,hm,aG,f8,ak,h=>by
  have MC:q<a_.length:=by omega
  have mg:a_.drop q=a_[q]::a_.drop (q+1):=qx MC;have wM:bJ.drop q=bJ[q]'(by omega)::bJ.drop (q+1):=qx (by omega);have j9:a_[q]? =some a_[q]:=by simp
  have w7:bJ[q]? =some (bJ[q]'(by omega)):=by simp
  rw[mg,wM] at h;generalize a_[q]=o at*;generalize bJ[q]'(by omega)=f at*;cases f with
  |some l=>exact⟨q,val,H,s,cF _,aG,fun _ _=>rfl,f8,ak,fun i U af=>by omega,o,l,j9,w7,h⟩
  |none=>
   obtain⟨n7,ty⟩:=bh q o j9 w7;simp only[nT] at h;obtain⟨v,aM,U,af,ay⟩:=OC n7 h;have cut:∀i,i<=q->∀t,aY (bM a_ (fun i=>if i=q then v else val i) (fun _=>true) s0 i) t=aY (bM a_ val (fun _=>true) s0 i) t:=fun i hi t=>
    hb i rfl fun j ap _=>⟨rfl,fun _=>if_neg (by omega)⟩;have L7:jt a_ q=o.dst:=by simp only[jt,j9]
   obtain⟨p,val',fX,c9,bH,b8,dS,fr,fs,ia,mZ⟩:=M6 hlen sj zs bh m (q+1) (fun i=>if i=q then v else val i) ((q,gk P o s (pM aM o.dst))::H) aM (by omega) (by omega) (by
    intro i x hi ab aC aB aw ah ag;by_cases re:i=q
    . subst re
      rw[j9] at ab;simp only[aV] at ab;subst ab;have e:ep i i=true:=by simp
      simp only[nG,e] at ag;obtain⟨d,o2⟩:∃d,o.dst=some d:=Option.ne_none_iff_exists'.1 aw;have aq:pM aM o.dst=v:=by rw[o2,pM,af d,g6,if_pos o2]
      rw[aq] at ag;have:=QM n7 ty aB U aw ag;simp only[if_true];exact this.move n7 fun t _=>(ak t).trans (cut i (cF _) t).symm
    . have e:ep q i=false:=by
       cases aj:ep q i with
       |false=>rfl
       |true=>exact absurd (oI aj).symm re
      simp only[nG,e] at ag;have:=f8 i x (by omega) ab aC aB aw ah ag;show gj P x _ ah (if i=q then v else val i);rw[if_neg re];exact this.move (bh i x ab aC).1 fun t _=>(cut i (by omega) t).symm) (fun t=>by
    rw[af t];simp only[bM,cond_true,L7,if_true];rw[g6,g6,ak t,cut q (cF _) t]) ay;refine⟨p,val',fX,c9,by omega,b8,fun i hi=>(dS i (by omega)).trans (if_neg (by omega)),fr,fs,fun i ve mm=>?_,mZ⟩;by_cases re:i=q
   . subst re
     refine⟨o,j9,w7,?_⟩;have aq:val' i=v:=(dS i (by omega)).trans (if_pos rfl);rw[aq];refine U.move n7 fun t _=>?_;rw[ak t];exact hb i rfl fun j ap _=>⟨rfl,fun _=>((dS j (by omega)).trans (if_neg (by omega))).symm⟩
   . exact ia i (by omega) mm
structure Kd(aF:Array Oper)(a_ bj:List bt)(bJ:List (Option (List Nat)))(aO:Nat->Nat)(c d:Nat)(z:List V):Prop where
 SH:wi false (c+1) aF a_ bj bJ aO
 lt:c<aF.size
 alloc:bj[c]? =some ⟨some d,.alloc z,false,none⟩
 fla:∃l,bJ[c]? =some (some l)
 before:∀(p:Nat)(o:bt)(l:List Nat),p<c->bj[p]? =some o->bJ[p]? =some (some l)->o.guard=none/\(∀i,p<i->i<aF.size->i≠c->is aF (aO p) (aO i))/\
  ∀(j:Nat)(x:bt),j<p->bj[j]? =some x->is aF (aO j) (aO p)∨(j∈l/\x.guard=none/\x.dst≠none/\bJ[j]? =some none)
 PM:∀(l:List Nat),bJ[c]? =some (some l)->(∀i,c<i->i<aF.size->is aF (aO c) (aO i))/\∀(j:Nat)(x:bt),j<c->bj[j]? =some x->bJ[j]? =some none->is aF (aO j) (aO c)∨(j∈l/\x.guard=none/\x.dst≠none)
abbrev XY(P:Program)(w0:World)(Γ0:Env)(n:Nat)(aF:Array Oper)(bj:List bt)(bJ:List (Option (List Nat)))(aO:Nat->Nat)(s:aH)(K:aH->Mem->Prop)(Q:Exit->Act->World->Prop)(c d id:Nat)(z:List V)(fuel:Nat):Prop:=
 ∀(e:Bool)(a8:Array Bool)(a:Act)(w:World)(Γ:Env)(p:Nat)(val:Nat->V)(H:List (Nat×(Mem->Prop)))(c9:aH)(M:Mem),
    (c1 aF.size).countP (fun i=>!a8.getD i true)<=fuel->a8.size=aF.size->
    (∀k o,aF[k]? =some o->a8.getD k true=true->∀e∈o.after,Region.binds .any e=true->a8.getD e.on true=true)->
    p<=c->(e=true->p<c)->M[id]? =some .dead->a8.getD (aO c) true=e->(∀i,p<=i->i<aF.size->i≠c->a8.getD (aO i) true=false)->
    (∀i,i<p->a8.getD (aO i) true=false->∃o,bj[i]? =some o/\bJ[i]? =some none/\gj P o (bM bj val (fun _=>true) s i) M (val i))->
    uC P bj bJ val s H p->(∀t,aY c9 t=aY (bM bj val (fun _=>true) s p) t)->
    (∃o l,bj[p]? =some o/\bJ[p]? =some (some l)/\nT P z id c (o::bj.drop (p+1)) (some l::bJ.drop (p+1)) p H c9 M K)->
    cA w0 Γ0 n w Γ (bif e then eK (bM bj val (fun i=>a8.getD (aO i) true) s p) d (.ptr id 0) else bM bj val (fun i=>a8.getD (aO i) true) s p) (bif e then M.set id (.box z) else M) a->
    wpAny P .any aF Q fuel a8 a w
theorem aH3{aF:Array Oper}{a_ bj:List bt}{bJ:List (Option (List Nat))}{aO:Nat->Nat}{c d id:Nat}{z:List V}{mu:List Nat}{Q:Exit->Act->World->Prop}{K:aH->Mem->Prop}(fk:pw P n mu aF 0 aF.toList=some a_)(dh:Kd aF a_ bj bJ aO c d z)
 (gq:∀aM ah du w' Γ',cA w0 Γ0 n w' Γ' aM ah du->K aM ah->Q .normal du w'):∀fuel:Nat,XY P w0 Γ0 n aF bj bJ aO s K Q c d id z fuel:=by
 have bP:=dh.SH;obtain⟨hlen,gr⟩:=Ed _ _ _ fk;simp only[ev] at gr;have jw:=bP.back;have ar:=dh.lt;have nv:∀i,i<aF.size->∃o cg,aF[aO i]? =some o/\bj[i]? =some cg/\sL P n mu aF (aO i) o=some cg:=fun i hi=>by
  have ag:=bP.lt i hi;obtain⟨cg,U,af⟩:=gr (aO i) (aF[aO i]) (by simp[ag]);exact⟨_,cg,by simp[ag],by rw[bP.get i hi];exact U,af⟩
 have tK:bj.length=bJ.length:=by rw[bP.len,bP.za]
 have main:=Ry (P:=P) (w0:=w0) (Γ0:=Γ0) (s:=s) (K:=K) fk bP gq;have aEU:∀k y,bj[k]? =some y->jt bj k=y.dst:=fun k y aD=>by simp only[jt,aD]
 have PL:∀(fuel:Nat)(a8:Array Bool)(a:Act)(w:World)(Γ:Env)(val:Nat->V)(H:List (Nat×(Mem->Prop)))(c9:aH)(M:Mem),
  (c1 aF.size).countP (fun i=>!a8.getD i true)<=fuel->a8.size=aF.size->
  (∀k o,aF[k]? =some o->a8.getD k true=true->∀e∈o.after,Region.binds .any e=true->a8.getD e.on true=true)->
  a8.getD (aO c) true=true->(∀i,c<i->i<aF.size->a8.getD (aO i) true=false)->
  (∀i,i<c->a8.getD (aO i) true=false->∃o,bj[i]? =some o/\bJ[i]? =some none/\gj P o (bM bj val (fun _=>true) s i) M (val i))->
  uC P bj bJ val s H c->(∀t,aY c9 t=aY (bM bj val (fun _=>true) s c) t)->
  (∃o l,bj[c]? =some o/\bJ[c]? =some (some l)/\nT P z id c (o::bj.drop (c+1)) (some l::bJ.drop (c+1)) c H c9 M K)->
  cA w0 Γ0 n w Γ (eK (bM bj val (fun i=>a8.getD (aO i) true) s c) d (.ptr id 0)) (M.set id (.box z)) a->wpAny P .any aF Q fuel a8 a w:=by
  intro fuel a8 a w Γ val H c9 M mj f9 de hk ex l1 f8 jy ⟨o,l,az,ag,hw⟩ bh;rw[dh.alloc] at az;simp only[aV] at az;subst az;have aj:ep c c=true:=by simp
  simp only[nT,aj] at hw;obtain⟨xA,gS⟩:=hw;have gS:l8 P (bj.drop (c+1)) (bJ.drop (c+1)) (c+1) H (eK c9 d (.ptr id 0)) (M.set id (.box z)) K:=gS;obtain⟨pS,aEu⟩:=dh.PM l ag;have mi:∀k,k<aF.size->a8.getD k true=true->∀j,is aF j k->a8.getD j true=true:=fun k ao g4 j ap=>by
   obtain⟨q,aG,rfl⟩:=bP.yp k ao;obtain⟨ok,_,bR,_⟩:=nv q aG;exact r5 jw (L:=fun j=>a8.getD j true) de (aO q+1) (aO q) (by omega) ok bR (de (aO q) ok bR g4) j ap
  have q8:∀m,m<=c->∀t(L:Nat->Bool),aY (bM bj (fun j=>if j=c then .ptr id 0 else val j) L s m) t=aY (bM bj val L s m) t:=fun m hm t L=>
   hb m rfl fun j ap _=>⟨rfl,fun _=>if_neg (by omega)⟩;have Ti:jt bj c=some d:=aEU c _ dh.alloc;obtain⟨p',val',fX,ow,bH,b8,dS,fr,fs,ia,mZ⟩:=Bn (P:=P) (M:=M.set id (.box z)) (K:=K) (s0:=s) tK bP.Ax (bj.length -(c+1)) (c+1) (fun j=>if j=c then .ptr id 0 else val j) H (eK c9 d (.ptr id 0)) rfl (by rw[bP.len];omega) (by
   intro j x ap ab aC aB aw cz fa;by_cases ez:j=c
   . subst ez
     rw[ag] at aC;simp at aC
   . have:=f8 j x (by omega) ab aC aB aw cz fa
     show gj P x _ cz (if j=c then _ else val j);rw[if_neg ez];exact this.move (bP.still j x ab aC).1 fun t _=>(q8 j (by omega) t _).symm) (fun t=>by
   simp only[bM,cond_true,if_true,Ti];rw[l5,g6,jy t,q8 c (cF _) t];simp only[aV,eq_comm]) gS;rw[bP.len] at b8;have j_:∀m,m<=c->∀t(L:Nat->Bool),aY (bM bj val' L s m) t=aY (bM bj val L s m) t:=fun m hm t L=>
   hb m rfl fun j ap _=>⟨rfl,fun _=>(dS j (by omega)).trans (if_neg (by omega))⟩;refine(main fuel).1 a8 a w Γ p' val' fX ow (M.set id (.box z)) mj f9 de bH b8 (fun j ap ip=>ex j (by omega) ip) (fun j ap eo=>?_) fr fs ?_ ?_
  . rcases Nat.lt_trichotomy j c with bw|heq|tF
    . obtain⟨x,ab,hj,_⟩:=l1 j bw eo
      rcases aEu j x bw ab hj with aj|⟨aW,a9,bN⟩
      . rw[mi _ (bP.lt c ar) hk _ aj] at eo;cases eo
      . refine⟨x,ab,hj,?_⟩
        have:=f8 j x bw ab hj a9 bN _ (Ec xA j aW);rw[(dS j (by omega)).trans (if_neg (by omega))];exact this.move (bP.still j x ab hj).1 fun t _=>(j_ j (by omega) t _).symm
    . subst heq
      rw[hk] at eo;cases eo
    . exact ia j (by omega) ap
  . rcases mZ with⟨U,af⟩|h
    . exact .inl ⟨U.trans bP.len,af⟩
    . exact .inr h
  . refine⟨bh.fY,fun t=>?_,bh.size,bh.defers,bh.ext⟩
    have a6:bM bj val' (fun j=>a8.getD (aO j) true) s p'=bM bj val' (fun j=>a8.getD (aO j) true) s (c+1):=
     r4 p' (by omega) fun j U af=>ex j (by omega) (by omega);have pl:val' c=.ptr id 0:=(dS c (by omega)).trans (if_pos rfl);have:=bh.gM t;rw[a6];simp only[bM,hk,cond_true,Ti,pl];rw[g6,j_ c (cF _) t];rw[l5] at this;simp only[aV];by_cases pk:t=d
    . rw[if_pos pk] at this;rw[if_pos pk.symm];exact this
    . rw[if_neg pk] at this;rw[if_neg (gi pk)];exact this
 intro fuel;induction fuel with
 |zero=>
  intro e a8 a w Γ p val H c9 M mj f9 de ax CN zo hk ex l1 f8 jy hh bh;have a4:(c1 aF.size).countP (fun i=>!a8.getD i true)=0:=by omega
  rw[List.countP_eq_zero] at a4;exfalso;cases e with
  |false=>
   have U:=a4 (aO c) (jY.2 (bP.lt c ar));rw[hk] at U;exact U rfl
  |true=>
   have:=CN rfl;have U:=a4 (aO p) (jY.2 (bP.lt p (by omega)));rw[ex p (cF _) (by omega) (by omega)] at U;exact U rfl
 |succ fuel bq=>
  intro e a8 a w Γ p val H c9 M mj f9 de ax CN zo hk ex l1 f8 jy hh bh;have fD:∀i b iM,i<aF.size->a8.getD i b=a8.getD i iM:=fun i b iM hi=>by simp[f9,hi]
  have ns:∀i,i<aF.size->a8.getD i true=false->(c1 aF.size).countP (fun j=>!(a8.setIfInBounds i true).getD j true)<=fuel:=fun i hi hu=>by
   have:=A6 (p:=fun j=>!a8.getD j true) (p':=fun j=>!(a8.setIfInBounds i true).getD j true) (i:=i) (by simp only[hu];rfl) (by simp[f9,hi]) (fun j ap=>by simp only[getD_set_ne true (gi ap)]) aF.size;rw[if_pos hi] at this;omega
  have nr:∀i o,aF[i]? =some o->(∀e∈o.after,Region.binds .any e=true->a8.getD e.on false=true)->
   (∀k o,aF[k]? =some o->(a8.setIfInBounds i true).getD k true=true->∀e∈o.after,Region.binds .any e=true->(a8.setIfInBounds i true).getD e.on true=true):=fun i o az al k o' ee ao e he aj=>by
   have zy:k<aF.size:=(la.1 ee).1;have bw:e.on<aF.size:=by have:=n1 aF.toList 0 jw k o' e (by simpa using ee) he aj;omega
   have key:a8.getD e.on true=true->(a8.setIfInBounds i true).getD e.on true=true:=fun h=>by
    by_cases ra:i=e.on
    . subst ra;simp[f9,bw]
    . rw[getD_set_ne true ra];exact h
   by_cases gx:k=i
   . subst gx
     rw[az] at ee;simp only[aV] at ee;subst ee;exact key ((fD _ _ _ bw).trans (al e he aj))
   . rw[getD_set_ne true (gi gx)] at ao
     exact key (de k o' ee ao e he aj)
  have aF3:∃i,i<aF.size/\a8.getD (aO i) true=false:=by
   cases e with
   |false=>exact⟨c,ar,hk⟩
   |true=>have:=CN rfl;exact⟨p,by omega,ex p (cF _) (by omega) (by omega)⟩
  refine⟨fun ri=>?_,fun aE hi=>?_⟩
  . have d9:∀m i,i<m->i<aF.size->a8.getD i true=true:=by
     intro m;induction m with
     |zero=>intro i h;exact absurd h (fb i)
     |succ m xQ=>
      intro i xk hi;cases hu:a8.getD i true with
      |true=>rfl
      |false=>
       have al:i∈Region.ready .any aF a8:=mem_ready.2 ⟨hu,aF[i],by simp[hi],fun e he aj=>by
        have bw:e.on<i:=by have:=n1 aF.toList 0 jw i aF[i] e (by simp[hi]) he aj;omega
        exact(fD _ _ _ (by omega)).trans (xQ e.on (by omega) (by omega))⟩;rw[ri] at al;cases al
    obtain⟨i,U,af⟩:=aF3;rw[d9 (aO i+1) (aO i) (by omega) (bP.lt i U)] at af;cases af
  . obtain⟨hu,o,az,al⟩:=mem_ready.1 hi
    have mU:aE<aF.size:=(la.1 az).1;obtain⟨i,fv,rfl⟩:=bP.yp aE mU;obtain⟨o',cg,ee,ff,pg⟩:=nv i fv;rw[az] at ee;simp only[aV] at ee;subst ee;have lR:∀j,is aF j (aO i)->a8.getD j true=true:=fun j ap=>
     r5 jw (L:=fun j=>a8.getD j true) de (aO i+1) (aO i) (by omega) o az (fun e he aj=>by
      have bw:e.on<aO i:=by have:=n1 aF.toList 0 jw (aO i) o e (by simpa using az) he aj;omega
      exact(fD _ _ _ (by omega)).trans (al e he aj)) j ap;have mi:∀k,k<aF.size->a8.getD k true=true->∀j,is aF j k->a8.getD j true=true:=fun k ao g4 j ap=>by
     obtain⟨q,aG,rfl⟩:=bP.yp k ao;obtain⟨ok,_,bR,_⟩:=nv q aG;exact r5 jw (L:=fun j=>a8.getD j true) de (aO q+1) (aO q) (by omega) ok bR (de (aO q) ok bR g4) j ap
    have eV:∀j,j<aF.size->j≠i->(a8.setIfInBounds (aO i) true).getD (aO j) true=a8.getD (aO j) true:=fun j ap ez=>
     getD_set_ne true fun e=>ez (bP.inj j i ap fv e.symm);have mY:(a8.setIfInBounds (aO i) true).getD (aO i) true=true:=by simp[f9,bP.lt i fv]
    have jg:∀k y,bj[k]? =some y->jt bj k=y.dst:=fun k y aD=>by simp only[jt,aD]
    have sl:∀k t,k<aF.size->jt bj k=some t->∃y,bj[k]? =some y/\y.dst=some t:=fun k t ao aw=>by
     obtain⟨_,y,_,aD,_⟩:=nv k ao;exact⟨y,aD,by rw[<-jg k y aD];exact aw⟩
    have K0:e=true->∀j y,j<c->a8.getD (aO j) true=false->bj[j]? =some y->y.dst≠some d/\d∉y.cK:=fun he j y so eo aD=>by
     rcases bP.apart j c y _ so ar aD dh.alloc with aj|eU
     . rw[mi _ (bP.lt _ ar) (hk.trans he) _ aj] at eo;cases eo
     . exact⟨fun e=>(lk eU).2.1 d e rfl,(lk eU).2.2 d rfl⟩
    have di:∀(L:Nat->Bool)(t:Nat),aY (bif e then eK (bM bj val L s p) d (.ptr id 0) else bM bj val L s p) t=if e=true/\t=d then .ptr id 0 else aY (bM bj val L s p) t:=fun L t=>by
     cases e with
     |false=>simp
     |true=>simp[l5]
    by_cases o7:i<p
    . obtain⟨PE,q4,tD,u6⟩:=l1 i o7 hu
      rw[ff] at q4;simp only[aV] at q4;subst q4;obtain⟨tM,vj⟩:=bP.still i cg ff tD;have vj:cg.op.jz=false:=vj.resolve_right fun q=>by cases q.1
      have aEQ:gj P cg (bM bj val (fun _=>true) s i) (bif e then M.set id (.box z) else M) (val i):=by
       cases e with
       |false=>exact u6
       |true=>exact u6.aNg tM vj zo
      have ks:∀t∈cg.cK,aY (bM bj val (fun _=>true) s i) t=aY (bif e then eK (bM bj val (fun i=>a8.getD (aO i) true) s p) d (.ptr id 0) else bM bj val (fun i=>a8.getD (aO i) true) s p) t:=fun t aT=>by
       rw[di,if_neg (fun q=>(K0 q.1 i cg (by omega) hu ff).2 (by rw[<-q.2];exact aT))];have a6:bM bj val (fun k=>decide (k<i)) s p=bM bj val (fun k=>decide (k<i)) s i:=r4 p (by omega) fun j U _=>by simp;omega
       have ba:aY (bM bj val (fun _=>true) s i) t=aY (bM bj val (fun k=>decide (k<i)) s i) t:=hb i rfl fun j ap _=>⟨by simp[ap],fun _=>rfl⟩;rw[ba,<-a6];refine hb p rfl fun k ao fw=>⟨?_,fun _=>rfl⟩;obtain⟨y,aD,l3⟩:=sl k t (by omega) fw;rcases Nat.lt_trichotomy k i with bw|heq|tF
       . rw[decide_eq_true bw]
         rcases bP.apart k i y cg bw fv aD ff with aj|eU
         . exact(lR _ aj).symm
         . exact absurd aT ((lk eU).1 t l3)
       . subst heq
         rw[hu];simp
       . rw[decide_eq_false (by omega)]
         rcases bP.apart i k cg y tF (by omega) ff aD with aj|eU
         . cases ag:a8.getD (aO k) true with
           |false=>rfl
           |true=>rw[mi _ (bP.lt k (by omega)) ag _ aj] at hu;cases hu
         . exact absurd aT ((lk eU).2.2 t l3)
      have xg:=aEQ.move tM ks;refine wh az pg bh xg ?_;rintro aM ah du w' Γ' cm ⟨k0,rfl⟩;refine bq e (a8.setIfInBounds (aO i) true) du w' Γ' p val H c9 M (ns _ (bP.lt i fv) hu) (by simp[f9]) (nr _ o az al) ax CN zo (by rw[eV c ar (by omega)];exact hk) (fun j ap ip so=>?_) (fun j ap eo=>?_) f8 jy hh ⟨cm.fY,fun t=>?_,cm.size,cm.defers,cm.ext⟩
      . rw[eV j ip (by omega)];exact ex j ap ip so
      . by_cases ez:j=i
        . subst ez;rw[mY] at eo;cases eo
        . rw[eV j (by omega) ez] at eo
          exact l1 j ap eo
      . have:=cm.gM t
        rw[k0 t,g6,di] at this;rw[di];have a6:aY (bM bj val (fun j=>(a8.setIfInBounds (aO i) true).getD (aO j) true) s p) t=if cg.dst=some t then val i else aY (bM bj val (fun j=>a8.getD (aO j) true) s p) t:=by
         have u4:∀(L:Nat->Bool),aY (bM bj val L s p) t=aY (bM bj val (fun j=>if j<aF.size then L j else false) s p) t:=fun L=>hb p rfl fun j ap _=>⟨by rw[if_pos (by omega)],fun _=>rfl⟩;rw[u4,u4 (fun j=>a8.getD (aO j) true),<-jg i cg ff];refine E0 (i:=i) (by rw[if_pos fv];exact hu) (by rw[if_pos fv];exact mY) (fun j ez=>?_) p o7 fun j U af ay be=>?_
         . split
           . rename_i ap;exact eV j ap ez
           . rfl
         . rw[if_pos (by omega)]
           obtain⟨y,aD,l3⟩:=sl j t (by omega) ay;rw[jg i cg ff] at be;rcases bP.apart i j cg y U (by omega) ff aD with aj|eU
           . cases ag:a8.getD (aO j) true with
             |false=>rfl
             |true=>rw[mi _ (bP.lt j (by omega)) ag _ aj] at hu;cases hu
           . exact absurd l3 ((lk eU).2.1 t be)
        rw[a6];by_cases aw:e=true/\t=d
        . rw[if_pos aw]
          rw[if_neg (fun q=>(K0 aw.1 i cg (by omega) hu ff).1 (by rw[q,aw.2])),if_pos aw] at this;exact this
        . rw[if_neg aw]
          rw[if_neg aw] at this;exact this
    . by_cases xi:i=c
      . have he:e=false:=by rw[<-hk,<-xi];exact hu
        subst he;have j9:=dh.alloc;rw[<-xi,ff] at j9;simp only[aV] at j9;subst j9;simp only[cond_false] at bh;refine Xd az pg bh (id:=id) zo ?_;intro du w' Γ' cm;have CV:(a8.setIfInBounds (aO i) true).getD (aO c) true=true:=by rw[<-xi];exact mY
        have lZ:cA w0 Γ0 n w' Γ' (eK (bM bj val (fun j=>(a8.setIfInBounds (aO i) true).getD (aO j) true) s p) d (.ptr id 0)) (M.set id (.box z)) du:=by
         refine⟨cm.fY,fun t=>?_,cm.size,cm.defers,cm.ext⟩;have a6:aY (bM bj val (fun j=>(a8.setIfInBounds (aO i) true).getD (aO j) true) s p) t=aY (bM bj val (fun j=>a8.getD (aO j) true) s p) t:=hb p rfl fun j ap _=>⟨eV j (by omega) (by omega),fun _=>rfl⟩;have:=cm.gM t;rw[l5] at this⊢;rw[a6];exact this
        have Dd:∀j,j<p->(a8.setIfInBounds (aO i) true).getD (aO j) true=false->∃o,bj[j]? =some o/\bJ[j]? =some none/\gj P o (bM bj val (fun _=>true) s j) M (val j):=fun j ap eo=>by
         rw[eV j (by omega) (by omega)] at eo;exact l1 j ap eo
        by_cases mq:p=c
        . subst mq
          exact PL fuel (a8.setIfInBounds (aO i) true) du w' Γ' val H c9 M (ns _ (bP.lt i fv) hu) (by simp[f9]) (nr _ o az al) CV (fun j U af=>by rw[eV j af (by omega)];exact ex j (by omega) af (by omega)) Dd f8 jy hh lZ
        . exact bq true (a8.setIfInBounds (aO i) true) du w' Γ' p val H c9 M (ns _ (bP.lt i fv) hu) (by simp[f9]) (nr _ o az al) ax (fun _=>by omega) zo CV (fun j U af ay=>by rw[eV j af (by omega)];exact ex j U af ay) Dd f8 jy hh lZ
      . have xj:i=p:=by
         rcases mG p i with bw|o5
         . exfalso
           obtain⟨hI,l,jN,n6,p8⟩:=hh;rcases mG p c with mq|mq
           . have:=lR _ ((dh.before p hI l mq jN n6).2.1 i bw fv xi)
             rw[ex p (cF _) (by omega) (by omega)] at this;cases this
           . have p5:p=c:=by omega
             have U:=lR _ ((dh.PM l (by rw[<-p5];exact n6)).1 i (by omega) fv);rw[hk] at U;have:=CN U;omega
         . omega
        subst xj;obtain⟨hI,l,jN,n6,p8⟩:=hh;rw[ff] at jN;simp only[aV] at jN;subst jN;have Tz:i<c:=by omega
        obtain⟨vk,pS,CH⟩:=dh.before i cg l Tz ff n6;have o2:=fun he=>K0 he i cg Tz hu ff;have ks:∀t∈cg.cK,aY c9 t=aY (bif e then eK (bM bj val (fun i=>a8.getD (aO i) true) s i) d (.ptr id 0) else bM bj val (fun i=>a8.getD (aO i) true) s i) t:=fun t aT=>by
         rw[di,if_neg (fun q=>(o2 q.1).2 (by rw[<-q.2];exact aT)),jy t];refine hb i rfl fun k ao fw=>⟨?_,fun _=>rfl⟩;obtain⟨y,aD,l3⟩:=sl k t (by omega) fw;rcases bP.apart k i y cg ao fv aD ff with aj|eU
         . exact(lR _ aj).symm
         . exact absurd aT ((lk eU).1 t l3)
        have CL:jt bj i=cg.dst:=jg i cg ff;have pU:ep i c=false:=by
         cases aj:ep i c with
         |false=>rfl
         |true=>exact absurd (oI aj) xi
        obtain⟨dst,op,bx,g⟩:=cg;simp only at vk o2 CL;subst vk;simp only[nT,pU] at p8;split at p8;rotate_left
        . exact p8.elim
        rename_i f args;obtain⟨v,cz,L4,ty,LX,ao⟩:=p8;rw[vU] at ao;obtain⟨iW,xA,gS⟩:=ao;have zl:e9 c9 args=e9 (bif e then eK (bM bj val (fun i=>a8.getD (aO i) true) s i) d (.ptr id 0) else bM bj val (fun i=>a8.getD (aO i) true) s i) args:=wV fun t aT=>ks t (by simpa[bt.cK,dK.cK] using aT);generalize aEh:(bif e then eK (bM bj val (fun i=>a8.getD (aO i) true) s i) d (.ptr id 0) else bM bj val (fun i=>a8.getD (aO i) true) s i)=j2 at bh zl ks;have Df:hr P false ⟨dst,.call f args,bx,none⟩ j2 (bif e then M.set id (.box z) else M) (fun aM ah=>aM=bA j2 dst v/\ah=bif e then cz.set id (.box z) else cz):=by
         show cj P f (e9 j2 args) _ (fun dV ah=>kC j2 dst bx dV (fun aM=>aM=bA j2 dst v/\ah=bif e then cz.set id (.box z) else cz));rw[<-zl];cases e with
         |false=>exact ty.mono fun x N ⟨U,af⟩=>by subst U af;rw[vU];exact⟨iW,rfl,rfl⟩
         |true=>exact LX.mono fun x N ⟨U,af⟩=>by subst U af;rw[vU];exact⟨iW,rfl,rfl⟩
        refine wh az pg bh Df ?_;rintro aM ah du w' Γ' cm ⟨rfl,rfl⟩;have q8:∀m,m<=i->∀t(L:Nat->Bool),aY (bM bj (fun j=>if j=i then v else val j) L s m) t=aY (bM bj val L s m) t:=fun m hm t L=>
         hb m rfl fun j ap _=>⟨rfl,fun _=>if_neg (by omega)⟩;obtain⟨p',val',fX,ow,bH,b8,dS,fr,fs,ia,mZ⟩:=M6 (P:=P) (M:=cz) (K:=K) (s0:=s) (z:=z) (n:=id) (c:=c) tK (by rw[bP.len];exact ar) dh.fla bP.Ax (c -(i+1)) (i+1) (fun j=>if j=i then v else val j) H (bA c9 dst v) rfl (by omega) (by
         intro j x ap ab aC aB aw yN ag;by_cases ez:j=i
         . subst ez
           rw[n6] at aC;simp at aC
         . have:=f8 j x (by omega) ab aC aB aw yN ag
           show gj P x _ yN (if j=i then v else val j);rw[if_neg ez];exact this.move (bP.still j x ab aC).1 fun t _=>(q8 j (by omega) t _).symm) (fun t=>by
         simp only[bM,cond_true,if_true,CL];rw[g6,g6,jy t,q8 i (cF _) t]) gS;have pl:val' i=v:=(dS i (by omega)).trans (if_pos rfl);have j_:∀m,m<=i->∀t(L:Nat->Bool),aY (bM bj val' L s m) t=aY (bM bj val L s m) t:=fun m hm t L=>
         hb m rfl fun j ap _=>⟨rfl,fun _=>(dS j (by omega)).trans (if_neg (by omega))⟩;have Dd:∀j,j<p'->(a8.setIfInBounds (aO i) true).getD (aO j) true=false->∃o,bj[j]? =some o/\bJ[j]? =some none/\gj P o (bM bj val' (fun _=>true) s j) cz (val' j):=fun j ap eo=>by
         rcases Nat.lt_trichotomy j i with bw|heq|tF
         . rw[eV j (by omega) (by omega)] at eo
           obtain⟨x,ab,hj,_⟩:=l1 j bw eo;rcases CH j x bw ab with aj|⟨aW,a9,bN,c5⟩
           . rw[lR _ aj] at eo;cases eo
           . refine⟨x,ab,hj,?_⟩
             have:=f8 j x bw ab hj a9 bN cz (Ec xA j aW);rw[(dS j (by omega)).trans (if_neg (by omega))];exact this.move (bP.still j x ab hj).1 fun t _=>(j_ j (by omega) t _).symm
         . subst heq
           rw[mY] at eo;cases eo
         . exact ia j (by omega) ap
        have CV:(a8.setIfInBounds (aO i) true).getD (aO c) true=e:=by rw[eV c ar (by omega)];exact hk
        have Tx:∀j,p'<=j->j<aF.size->j≠c->(a8.setIfInBounds (aO i) true).getD (aO j) true=false:=fun j ap ip so=>by rw[eV j ip (by omega)];exact ex j (by omega) ip so
        have eF:∀t,aY (bif e then eK (bM bj val' (fun j=>(a8.setIfInBounds (aO i) true).getD (aO j) true) s p') d (.ptr id 0) else bM bj val' (fun j=>(a8.setIfInBounds (aO i) true).getD (aO j) true) s p') t=aY (bA j2 dst v) t:=fun t=>by
         have a6:bM bj val' (fun j=>(a8.setIfInBounds (aO i) true).getD (aO j) true) s p'=bM bj val' (fun j=>(a8.setIfInBounds (aO i) true).getD (aO j) true) s (i+1):=
          r4 p' (by omega) fun j U af=>by rw[eV j (by omega) (by omega)];exact ex j (by omega) (by omega) (by omega)
         have ba:aY (bM bj val' (fun j=>(a8.setIfInBounds (aO i) true).getD (aO j) true) s i) t=aY (bM bj val (fun j=>a8.getD (aO j) true) s i) t:=by
          rw[j_ i (cF _) t];exact hb i rfl fun j ap _=>⟨eV j (by omega) (by omega),fun _=>rfl⟩
         have e3:aY (bM bj val' (fun j=>(a8.setIfInBounds (aO i) true).getD (aO j) true) s (i+1)) t=if dst=some t then v else aY (bM bj val (fun j=>a8.getD (aO j) true) s i) t:=by
          simp only[bM,mY,cond_true,CL,pl];rw[g6,ba]
         rw[a6,g6,<-aEh,di];cases e with
         |false=>
          simp only[cond_false,e3];rw[if_neg (show¬(false=true/\t=d) from fun q=>by cases q.1)]
         |true=>
          simp only[cond_true,l5,true_and,e3];by_cases pk:t=d
          . rw[if_pos pk,if_neg (fun q=>(o2 rfl).1 (by rw[q,pk])),if_pos pk]
          . rw[if_neg pk,if_neg pk]
        have lZ:cA w0 Γ0 n w' Γ' (bif e then eK (bM bj val' (fun j=>(a8.setIfInBounds (aO i) true).getD (aO j) true) s p') d (.ptr id 0) else bM bj val' (fun j=>(a8.setIfInBounds (aO i) true).getD (aO j) true) s p') (bif e then cz.set id (.box z) else cz) du:=
         ⟨cm.fY,fun t=>by rw[eF t];exact cm.gM t,cm.size,cm.defers,cm.ext⟩;by_cases ab:e=true/\p'=c
        . obtain⟨rfl,rfl⟩:=ab
          exact PL fuel (a8.setIfInBounds (aO i) true) du w' Γ' val' fX ow cz (ns _ (bP.lt i fv) hu) (by simp[f9]) (nr _ o az al) CV (fun j U af=>Tx j (by omega) af (by omega)) Dd fr fs mZ lZ
        . exact bq e (a8.setIfInBounds (aO i) true) du w' Γ' p' val' fX ow cz (ns _ (bP.lt i fv) hu) (by simp[f9]) (nr _ o az al) b8 (fun he=>by rcases mG p' c with h|h;exact h;exact absurd ⟨he,by omega⟩ ab) L4 CV Tx Dd fr fs mZ lZ
theorem aH4{aK2:Nat}{aF:Array Oper}{a_ bj:List bt}{bJ:List (Option (List Nat))}{aO:Nat->Nat}{c d:Nat}{z:List V}{mu:List Nat}{Q:Exit->Act->World->Prop}{K:aH->Mem->Prop}(C1:P.follows .mixedOrders=true)(fk:pw P n mu aF 0 aF.toList=some a_)(dh:Kd aF a_ bj bJ aO c d z)
 (vr:cA w0 Γ0 n w Γ s M a)(zJ:nT P z M.length c bj bJ 0 [] s (M++[.dead]) K)(gq:∀aM ah du w' Γ',cA w0 Γ0 n w' Γ' aM ah du->K aM ah->Q .normal du w'):(Code.region aK2 aF true).wp P Q a w:=by
 have bP:=dh.SH;have tK:bj.length=bJ.length:=by rw[bP.len,bP.za]
 refine wp_region_any C1 ?_;have lY:cA w0 Γ0 n w.drew Γ s M a:=vr.qe vr.fY.drew (Ext.drew w Γ);have rk:=lY.qe (lY.fY.GR 0 (B:=.dead) ⟨rfl,rfl⟩) (Ext.ghost w.drew Γ _);obtain⟨p',val',fX,ow,_,b8,_,fr,fs,ia,mZ⟩:=M6 (P:=P) (M:=M++[.dead]) (K:=K) (s0:=s) (z:=z) (n:=M.length) (c:=c) tK (by rw[bP.len];exact dh.lt) dh.fla bP.Ax c 0 (fun _=>.undef) [] s (by omega) (fG _) (fun i o hi=>absurd hi (fb i)) (fun t=>rfl) (by simpa using zJ);have a7:∀i,i<aF.size->(Array.replicate aF.size false).getD i true=false:=fun i hi=>by simp[hi]
 refine aH3 (P:=P) (w0:=w0) (Γ0:=Γ0) (s:=s) (K:=K) (id:=M.length) fk dh gq aF.size false _ a w.drew (Γ.more (tt Γ.h1 0)) p' val' fX ow (M++[.dead]) ?_ (by simp) ?_ b8 (fun h=>by cases h) (by simp) (a7 _ (bP.lt c dh.lt)) (fun i _ hi _=>a7 _ (bP.lt i hi)) (fun i hi _=>ia i (fG _) hi) fr fs mZ ?_
 . have:=List.countP_le_length (p:=fun i=>!(Array.replicate aF.size false).getD i true) (l:=c1 aF.size)
   simpa using this
 . intro k o az ao
   rw[a7 k (la.1 az).1] at ao;cases ao
 . refine⟨rk.fY,fun t=>?_,rk.size,rk.defers,rk.ext⟩
   have e:bM bj val' (fun i=>(Array.replicate aF.size false).getD (aO i) true) s p'=bM bj val' (fun i=>(Array.replicate aF.size false).getD (aO i) true) s 0:=
    r4 p' (fG _) fun j _ ap=>a7 _ (bP.lt j (by have:=dh.lt;omega));simp only[cond_false];rw[e];exact rk.gM t
theorem Np{x:bt}(ab:ub x=true):x.guard=none:=by
 unfold ub at ab;split at ab
 . assumption
 . cases ab
theorem aJH{bJ:List (Option (List Nat))}{j:Nat}(ap:j<bJ.length){d:Option (List Nat)}(h:D0 (bJ.getD j d)=true):bJ[j]? =some none:=by
 rw[kK,gd ap,Option.getD_some] at h;rw[gd ap];unfold D0 at h;split at h
 . rename_i e;rw[e]
 . cases h
theorem aJf{ro c:Nat}{z:List V}{aF:Array Oper}{a_ bj:List bt}{bJ:List (Option (List Nat))}(h:Nk ro aF a_=some (c,z,bj,bJ)):∃aO d,Kd aF a_ bj bJ aO c d z:=by
 unfold Nk at h;simp only at h;split at h
 . cases h
 . rename_i aO zv
   split at h
   . cases h
   . rename_i c0 q6
     split at h
     . rename_i d OE l' bk gS
       obtain⟨ar,he⟩:=fe h;simp only[dX] at he;obtain⟨rfl,rfl,rfl,rfl⟩:=he;simp only[b_,List.all_eq_true,jY] at ar;obtain⟨⟨⟨⟨⟨⟨U,af⟩,ay⟩,be⟩,bv⟩,b7⟩,dQ⟩:=ar;have en:∀i x,(aO.map fun i=>a_.getD i default)[i]? =some x->(aO.map fun i=>a_.getD i default).getD i default=x:=fun i x ab=>by
        rw[kK,ab];rfl
       have bY:∀i k,n0 (gv aF.toList []) aO i k=true->is aF (aO.getD i 0) (aO.getD k 0):=fun i k aj=>aj;have ba:a_.length=aF.size:=oI af;have e3:(n4 (gv aF.toList []) aO (a_.map (n2 false)) a_.length).length=a_.length:=by simp[n4]
       have Ts:wi false (c0+1) aF a_ _ _ _:=SI (lo:=c0+1) U af ay be bv b7 fun p ax zD=>by
        have:=dQ p ax;unfold Ji at this;split at this
        . exact this
        . rename_i l ag
          rcases zD with zD|zD
          . rw[show il c0 p=true from oP.2 zD] at this
            exact this
          . rw[ag] at zD;cases zD
       have bw:c0<aF.size:=by
        have:=(bn.1 bk).1;rw[Ts.len] at this;exact this
       refine⟨_,d,Ts,bw,bk,⟨l',gS⟩,fun p o l ax az aC=>?_,fun l ag=>?_⟩
       . have:=dQ p (by omega)
         unfold Ji at this;rw[kK,aC] at this;simp only[Option.getD_some] at this;rw[show il c0 p=false from(by cases e:il c0 p with|false=>rfl|true=>have:=oP.1 e;omega),show il p c0=true from oP.2 ax] at this;simp only[cond_true,cond_false,b_,List.all_eq_true,jY] at this;obtain⟨⟨aW,a9⟩,bN⟩:=this;rw[en p o az] at aW;refine⟨Np aW,fun i su hi xi=>?_,fun j x ap ab=>?_⟩
         . have:=a9 i (by omega)
           rw[show il p i=true from oP.2 su,show ep i c0=false from(by cases e:ep i c0 with|false=>rfl|true=>exact absurd (oI e) xi)] at this;exact bY _ _ (by simpa using this)
         . have:=bN j ap
           rw[en j x ab,Bool.or_eq_true] at this;rcases this with h|h
           . exact .inl (bY _ _ h)
           . simp only[b_] at h
             obtain⟨⟨⟨bH,b8⟩,dS⟩,fr⟩:=h;exact .inr ⟨z4.1 bH,Np b8,(fun e=>by rw[e] at dS;cases dS),aJH (by omega) fr⟩
       . have:=dQ c0 (by omega)
         unfold Ji at this;rw[kK,ag] at this;simp only[Option.getD_some] at this;rw[show il c0 c0=false from(by cases e:il c0 c0 with|false=>rfl|true=>have:=oP.1 e;omega)] at this;simp only[cond_false,b_,List.all_eq_true,jY] at this;obtain⟨a9,bN⟩:=this;refine⟨fun i aEI hi=>?_,fun j x ap ab Ha=>?_⟩
         . have:=a9 i (by omega)
           rw[show il c0 i=true from oP.2 aEI] at this;exact bY _ _ (by simpa using this)
         . have:=bN j ap
           rw[en j x ab,kK,Ha] at this;simp only[Option.getD_some,D0,Bool.not_true,Bool.false_or,Bool.or_eq_true] at this;rcases this with h|h
           . exact .inl (bY _ _ h)
           . simp only[b_] at h
             obtain⟨⟨bH,b8⟩,dS⟩:=h;exact .inr ⟨z4.1 bH,Np b8,(fun e=>by rw[e] at dS;cases dS)⟩
     . cases h
end
end Go.aQ
namespace Go.aQ
open Go.RowKit (Below)
section
variable{P:Program}{w0 w:World}{Γ0 Γ:Env}{M:Mem}{s:aH}{a:Act}{n:Nat}
def Yl(w0:World)(Γ0:Env)(n:Nat)(Q:Exit->aH->Mem->Prop):Exit->Act->World->Prop:=fun e a w=>∃Γ s M,cA w0 Γ0 n w Γ s M a/\Q e s M
theorem Ext.len{w':World}{Γ':Env}(h:Ext w Γ w' Γ'):Γ.cW.length<=Γ'.cW.length:=by
 rcases mG Γ'.cW.length Γ.cW.length with bw|o5
 . obtain⟨l',U,_⟩:=h.cW Γ'.cW.length (Γ.cW[Γ'.cW.length]) (by simp[bw])
   simp at U
 . exact o5
theorem AG(s:aH):∀live:List Nat,k_ live (dt s live)=gW s live
 |[]=>rfl
 |t::d5=>by simp[k_,dt,gW,AG s d5]
theorem cA.pop(h:cA w0 Γ0 n w Γ s M a){len:Nat}(a4:Γ0.cW.length<=len){live:List Nat}(ax:hK len (dt s live) M=true):cA w0 Γ0 n w (Γ.je w len) (k_ live (dt s live)) (M.take len) a:=by
 simp only[hK,b_,decide_eq_true_eq] at ax;obtain⟨⟨ag,hu⟩,hm⟩:=ax;refine⟨h.fY.pop ag hm,fun t=>?_,h.size,h.defers,Ext.pop h.fY h.ext a4⟩;rw[AG];have:∀l:List Nat,cS len (dt s l)=true->bp w (Γ.je w len) (aY (gW s l) t) (a.tmps.getD t Go.undef):=by
  intro l;induction l with
  |nil=>intro _;exact .undef _
  |cons u l bq=>
   intro hu;simp only[dt,cS,b_] at hu;simp only[gW,aY];by_cases T_:u=t
   . subst T_;simpa using tq (h.gM u) hu.1
   . have:(u==t)=false:=by simpa using T_
     simpa[this] using bq hu.2
 exact this live hu
theorem aNA{Q:Exit->Act->World->Prop}{c dD:Code}(l:Nat)(b3:Nat->Act->World->Prop)(aC:findLabel c l=some dD)
 (first:c.wp P (Exit.jump l (fun a w=>∃n,b3 n a w) Q) a w)
 (aJW:∀n a w,b3 n a w->dD.wp P (Exit.jump l (fun du w'=>∃m,m<n/\b3 m du w') Q) a w):(Code.scope c).wp P Q a w:=by
 refine wp_scope_jumps l (fun a w=>∃n,b3 n a w) (fun a w=>leastOf (fun n=>b3 n a w)) aC first ?_
 intro a w w_;refine wp_mono (aJW _ a w (leastOf_spec w_).1) ?_;intro e du w' aG;cases e with
 |goto l'=>
  obtain⟨rfl,m,bw,CB⟩:=aG;exact⟨rfl,⟨m,CB⟩,Nat.lt_of_le_of_lt ((leastOf_spec ⟨m,CB⟩).2 m CB) bw⟩
 |normal=>exact aG
 |exit id=>exact aG
 |ret=>exact aG
 |panic jJ=>exact aG
 |outgrown=>exact aG
theorem aNw{h:Hints}:∀(k:Nat)(c:Code)(ac:bc),pv P n h k c=some ac->∀(Q:Exit->aH->Mem->Prop)(s:aH)(M:Mem)(a:Act)(w:World)(Γ:Env),cA w0 Γ0 n w Γ s M a->dv P ac Q s M->c.wp P (Yl w0 Γ0 n Q) a w:=by
 intro k;induction k with
 |zero=>intro c ac al;simp[pv] at al
 |succ k bq=>
  intro c ac al Q s M a w Γ bh fg;have Mo:Γ0.cW.length<=M.length:=by rw[<-bh.fY.len];exact bh.ext.len
  cases c<;>simp only[pv,reduceCtorEq] at al
  case skip=>
   simp only[aV] at al;subst al;exact wp_skip ⟨Γ,s,M,bh,fg⟩
  case region id aF y3=>
   split at al
   . rename_i os xv
     split at al
     . rename_i CM
       split at al
       . rename_i hm
         split at al
         . rename_i dN Hm
           have TV:Jd aF os=some dN:=by
            cases e:(nB (look h.om id) 9999||nB (look h.om id) 9998) with
            |true=>rw[e] at Hm;cases Hm
            |false=>rw[e] at Hm;exact Hm
           simp only[aV] at al;subst al;rw[show y3=true from CM];exact aJg (w0:=w0) (Γ0:=Γ0) (n:=n) (K:=fun aM ah=>Q .normal (gW aM (look h.live id)) ah) hm xv TV bh fg (fun aM ah du w' Γ' cm iR=>⟨Γ',_,ah,cm.norm _,iR⟩)
         . split at al
           . simp only[dJ] at al
             obtain⟨⟨c,z,bj,bJ⟩,ab,rfl⟩:=al;rw[show y3=true from CM];obtain⟨aO,d,dh⟩:=aJf ab;exact aH4 (w0:=w0) (Γ0:=Γ0) (n:=n) (K:=fun aM ah=>Q .normal (gW aM (look h.live id)) ah) hm xv dh bh fg (fun aM ah du w' Γ' cm iR=>⟨Γ',_,ah,cm.norm _,iR⟩)
           simp only[dJ] at al;obtain⟨x,ab,rfl⟩:=al;rw[show y3=true from CM];exact aB_ (w0:=w0) (Γ0:=Γ0) (n:=n) (K:=fun aM ah=>Q .normal (gW aM (look h.live id)) ah) hm xv ab bh fg (fun aM ah du w' Γ' cm iR=>⟨Γ',_,ah,cm.norm _,iR⟩)
       . cases al
     . rename_i CM
       simp only[aV] at al;subst al;have aw:y3=false:=by simpa using CM
       subst aw;refine wp_region ?_;have e:c1 aF.size=List.range' 0 aF.toList.length:=by simp[List.range_eq_range']
       rw[e];exact Xn (w0:=w0) (Γ0:=Γ0) (n:=n) (mu:=look h.om id) (K:=fun aM ah=>Q .normal (gW aM (look h.live id)) ah) (fun aM ah du w' Γ' cm iR=>⟨Γ',_,ah,cm.norm _,iR⟩) aF.toList 0 os s M a w Γ (by simp) xv bh fg
   . cases al
  case seq x y=>
   obtain⟨s8,yU,ab,aD,rfl⟩:=hz al;refine wp_seq (wp_mono (bq x s8 ab (yh (dv P yU) Q) s M a w Γ bh fg) ?_);rintro e du w' ⟨Γ',aM,ah,cm,aG⟩;cases e with
   |normal=>exact bq y yU aD Q aM ah du w' Γ' cm aG
   |exit id=>exact⟨Γ',aM,ah,cm,aG⟩
   |goto l=>exact⟨Γ',aM,ah,cm,aG⟩
   |ret=>exact⟨Γ',aM,ah,cm,aG⟩
   |panic jJ=>exact⟨Γ',aM,ah,cm,aG⟩
   |outgrown=>exact⟨Γ',aM,ah,cm,aG⟩
  case cond c x y=>
   split at al
   . rename_i c0 s8 yU ar ab aD
     simp only[aV] at al;subst al;simp only[dv] at fg;have q9:=d4 bh.gM ar;split at fg
     . rename_i t aT
       have:=qs q9 aT;refine wp_cond this ?_;cases t with
       |true=>exact bq x s8 ab Q s M a w Γ bh fg
       |false=>exact bq y yU aD Q s M a w Γ bh fg
     . exact fg.elim
   . cases al
  case block id x=>
   simp only[dJ] at al;obtain⟨s8,ab,rfl⟩:=al;refine wp_block (wp_mono (bq x s8 ab (pI id Q) s M a w Γ bh fg) ?_);rintro e du w' ⟨Γ',aM,ah,cm,aG⟩;cases e with
   |exit nA=>
    simp only[Exit.inBlock,pI] at aG⊢;by_cases bf:nA=id
    . subst bf
      simp only[beq_self_eq_true,cond_true] at aG;rw[if_pos rfl];exact⟨Γ',aM,ah,cm,aG⟩
    . have:(nA==id)=false:=by simpa using bf
      simp only[this,cond_false] at aG;rw[if_neg bf];exact⟨Γ',aM,ah,cm,aG⟩
   |normal=>exact⟨Γ',aM,ah,cm,aG⟩
   |goto l=>exact⟨Γ',aM,ah,cm,aG⟩
   |ret=>exact⟨Γ',aM,ah,cm,aG⟩
   |panic jJ=>exact⟨Γ',aM,ah,cm,aG⟩
   |outgrown=>exact⟨Γ',aM,ah,cm,aG⟩
  case loop x=>
   simp only[dJ] at al;obtain⟨s8,ab,rfl⟩:=al;obtain⟨dy,x8,a4,aGK⟩:=fg;refine wp_loop_ghost (fun m a w=>∃Γ vs cz,dy m vs cz/\cA w0 Γ0 n w Γ (k_ (look h.loops (oZ x)) vs) cz a) x8 ⟨Γ,_,M,a4,by rw[AG];exact bh.norm _⟩ ?_;rintro m a w ⟨oE,vs,cz,lv,lY⟩;refine wp_mono (bq x s8 ab _ _ cz a w oE lY (aGK m vs cz lv)) ?_;rintro e du w' ⟨Γ',aM,ah,cm,aG⟩;cases e with
   |normal=>
    rcases aG with⟨e5,bw,LF⟩|⟨vn,e5,bw,LF⟩
    . exact⟨e5,bw,Γ',_,ah,LF,by rw[AG];exact cm.norm _⟩
    . exact⟨e5,bw,_,_,_,LF,cm.pop Mo vn⟩
   |exit id=>exact⟨Γ',aM,ah,cm,aG⟩
   |goto l=>exact⟨Γ',aM,ah,cm,aG⟩
   |ret=>exact⟨Γ',aM,ah,cm,aG⟩
   |panic jJ=>exact⟨Γ',aM,ah,cm,aG⟩
   |outgrown=>exact⟨Γ',aM,ah,cm,aG⟩
  case scope x=>
   split at al
   . rename_i l ag
     split at al
     . rename_i dD TY
       obtain⟨s8,yU,ab,aD,rfl⟩:=hz al;obtain⟨b3,Mb,aGv⟩:=fg;refine aNA l (fun m a w=>∃Γ vs cz,b3 m vs cz/\cA w0 Γ0 n w Γ (k_ (look h.loops (oZ dD)) vs) cz a) TY (wp_mono (bq x s8 ab _ s M a w Γ bh Mb) ?_) ?_
       . rintro e du w' ⟨Γ',aM,ah,cm,aG⟩
         cases e with
         |goto l'=>
          obtain⟨rfl,m,w_⟩:=aG;exact⟨rfl,m,Γ',_,ah,w_,by rw[AG];exact cm.norm _⟩
         |normal=>exact⟨Γ',aM,ah,cm,aG⟩
         |exit id=>exact⟨Γ',aM,ah,cm,aG⟩
         |ret=>exact⟨Γ',aM,ah,cm,aG⟩
         |panic jJ=>exact⟨Γ',aM,ah,cm,aG⟩
         |outgrown=>exact⟨Γ',aM,ah,cm,aG⟩
       . rintro m a w ⟨oE,vs,cz,w_,lY⟩
         refine wp_mono (bq dD yU aD _ _ cz a w oE lY (aGv m vs cz w_)) ?_;rintro e du w' ⟨Γ',aM,ah,cm,aG⟩;cases e with
         |goto l'=>
          obtain⟨rfl,e5,bw,CB⟩:=aG;exact⟨rfl,e5,bw,Γ',_,ah,CB,by rw[AG];exact cm.norm _⟩
         |normal=>exact⟨Γ',aM,ah,cm,aG⟩
         |exit id=>exact⟨Γ',aM,ah,cm,aG⟩
         |ret=>exact⟨Γ',aM,ah,cm,aG⟩
         |panic jJ=>exact⟨Γ',aM,ah,cm,aG⟩
         |outgrown=>exact⟨Γ',aM,ah,cm,aG⟩
     . cases al
   . cases al
  case exit id=>
   simp only[aV] at al;subst al;exact wp_exit ⟨Γ,s,M,bh,fg⟩
  case label l=>
   simp only[aV] at al;subst al;exact wp_label ⟨Γ,s,M,bh,fg⟩
  case goto l=>
   simp only[aV] at al;subst al;exact wp_goto ⟨Γ,s,M,bh,fg⟩
  case ret=>
   simp only[aV] at al;subst al;exact wp_ret ⟨Γ,s,M,bh,fg⟩
def gB(tmps:Array Value)(r:ResultVar):Sem Value:=
 match r with
 |.tmp t=>pure (tmps.getD t Go.undef)
 |.cell c t=>asAddr (tmps.getD c Go.undef)>>=loadVar t
theorem aKZ{r:ResultVar}{AV:mJ}{rs:List ResultVar}{qM:List mJ}(h:ou P n (r::rs)=some (AV::qM))(bh:cA w0 Γ0 n w Γ s M a){v:V}(aq:Ee s M AV=some v):
 ∃bl,bp w Γ v bl/\(gB a.tmps r).run P w=.ok bl w:=by
 cases r with
 |tmp t=>
  simp only[ou,dJ,List.cons.injEq] at h;obtain⟨_,_,rfl,rfl⟩:=h;simp only[Ee,aV] at aq;subst aq;exact⟨_,bh.gM t,rfl⟩
 |cell c t=>
  simp only[ou] at h;split at h
  . rename_i m bX a_ hm bk has
    simp only[aV,List.cons.injEq] at h;obtain⟨rfl,rfl⟩:=h;simp only[Ee] at aq;obtain⟨b,off,o',cells,ar,iq,ag⟩:=UE bh.fY (bh.gM c) aq;have hk:=UD iq ag;cases bX with
    |true=>
     obtain⟨xs,bl,rfl,hlen,dL,al⟩:=hk;refine⟨.agg ((c1 m).map bl).toArray,.agg xs _ (by simp[hlen]) (fun j x ab=>?_),?_⟩
     . have ap:j<m:=by rw[<-hlen];exact(bn.1 ab).1
       have:=al j x ab;simpa[ih,ap] using this
     . have co:=run_loadCells (P:=P) w ⟨b,off+o',none⟩ m bl (fun j ap=>by rw[Addr.lh];exact dL j ap)
       simp[gB,ar,asAddr,loadVar,vI bk,gV hm,co]
    |false=>
     obtain⟨bl,dL,al⟩:=hk;exact⟨bl,al,by simp[gB,ar,asAddr,loadVar,vI bk,dL]⟩
  . cases h
theorem VQ(bh:cA w0 Γ0 n w Γ s M a):∀(rs:List ResultVar)(qM:List mJ)(vs:List V),ou P n rs=some qM->ye s M qM=some vs->
 ∃r_:List Value,ef w Γ vs r_.toArray/\(rs.mapM (gB a.tmps)).run P w=.ok r_ w
 |[],qM,vs,h,aq=>by
  simp only[ou,aV] at h;subst h;simp only[ye,aV] at aq;subst aq;exact⟨[],⟨rfl,fun j x ab=>by simp at ab⟩,by simp⟩
 |r::rs,qM,vs,h,aq=>by
  have aEL:∃AV EY,qM=AV::EY/\ou P n rs=some EY:=by
   cases r with
   |tmp t=>
    simp only[ou,dJ] at h;obtain⟨a_,U,rfl⟩:=h;exact⟨_,_,rfl,U⟩
   |cell c t=>
    simp only[ou] at h;split at h
    . rename_i U af ay
      simp only[aV] at h;exact⟨_,_,h.symm,ay⟩
    . cases h
  obtain⟨AV,EY,rfl,lW⟩:=aEL;simp only[ye] at aq;split at aq
  . rename_i v Ow xE MN
    simp only[aV] at aq;subst aq;obtain⟨bl,U,af⟩:=aKZ h bh xE;obtain⟨r_,ay,be⟩:=VQ bh rs EY Ow lW MN;refine⟨bl::r_,⟨by simp[ay.1.symm],fun j x ab=>?_⟩,?_⟩
    . cases j with
      |zero=>simp at ab;subst ab;simpa using U
      |succ j=>
       have:=ay.2 j x (by simpa using ab);simpa[ih] using this
    . rw[List.mapM_cons]
      simp only[Sem.run_bind,af,Result.andThen_ok,be,Sem.run_pure]
  . cases aq
theorem VS(bh:cA w0 Γ0 n w Γ s M a){fn:Func}{qM:List mJ}(h:ou P n fn.results.toList=some qM){v:V}(aq:pu s M qM=some v):∃bl,bp w Γ v bl/\(results fn a.tmps).run P w=.ok bl w:=by
 have key:∃vs,ye s M qM=some vs/\((∃x,vs=[x]/\v=x)∨((∀x,vs≠[x])/\v=.tuple vs)):=by
  unfold pu at aq;split at aq
  . rename_i x ab
    simp only[aV] at aq;exact⟨_,ab,.inl ⟨x,rfl,aq.symm⟩⟩
  . rename_i vs cr ab
    simp only[aV] at aq;exact⟨vs,ab,.inr ⟨fun x e=>cr x e,aq.symm⟩⟩
  . cases aq
 obtain⟨vs,De,aEE⟩:=key;obtain⟨r_,U,af⟩:=VQ bh _ _ _ h De;have hm:(fn.results.mapM (gB a.tmps)).run P w=.ok r_.toArray w:=by
  rw[Array.mapM_eq_mapM_toList];simp[af]
 have ag:r_.length=vs.length:=by simpa using U.1
 have fk:results fn a.tmps=(do
  let vs<-fn.results.mapM (gB a.tmps)
  pure (if h:vs.size=1 then vs[0] else .tuple vs)):=by
  unfold results
  congr 2
 rw[fk];rcases aEE with⟨x,rfl,rfl⟩|⟨cr,rfl⟩
 . obtain⟨c,rfl⟩:=List.length_eq_one_iff.1 (show r_.length=1 from ag)
   refine⟨c,by simpa using U.2 0 _ rfl,?_⟩;rw[Sem.run_bind,hm];simp
 . refine⟨.tuple r_.toArray,.tuple _ _ U.1 U.2,?_⟩
   rw[Sem.run_bind,hm];have:¬(r_.toArray.size=1):=by
    intro ak;simp only[List.size_toArray] at ak;rw[ag] at ak;obtain⟨x,rfl⟩:=List.length_eq_one_iff.1 ak;exact cr x rfl
   simp only[Result.andThen_ok,Sem.run_pure,this,dite_false]
theorem Wf:∀(args:List V)(i t:Nat),aY (rK args i) t=if i<=t then(args[t -i]?).getD .undef else .undef
 |[],i,t=>by simp[rK,aY]
 |x::xs,i,t=>by
  simp only[rK,aY];by_cases h:i=t
  . subst h;simp
  . have:(i==t)=false:=by simpa using h
    rw[this,cond_false,Wf xs (i+1) t];by_cases af:i<=t
    . rw[if_pos (by omega),if_pos af,show t -i=(t -(i+1))+1 by omega]
      simp
    . rw[if_neg (by omega),if_neg af]
theorem aDJ{f:Nat}{h:Hints}{fn:bu}(aC:bC P h f=some fn):u1 P f=true/\∃F c,P.funcs[f]? =some F/\F.body=some c/\pv P F.ntmps h 200 c=some fn.body/\ou P F.ntmps F.results.toList=some fn.results:=by
 unfold bC at aC;split at aC
 . rename_i F bP
   split at aC
   . rename_i c ar
     cases aK:(F.name != "runtime.NumGoroutine") with
     |false=>simp[aK] at aC
     |true=>
      simp only[aK,cond_true] at aC;split at aC
      . rename_i b rs aj lW
        simp only[aV] at aC;subst aC;exact⟨by simp[u1,bP,ar,aK],F,c,bP,ar,aj,lW⟩
      . cases aC
   . cases aC
 . cases aC
theorem aA9{F:Func}{args:List V}{jI:Array Value}(aB:Good w Γ M)(bk:ef w Γ args jI)(hle:args.length<=F.ntmps):cA w Γ F.ntmps w Γ (rK args 0) M {tmps:=jI++Array.replicate (F.ntmps -jI.size) Go.undef,defers:=[]}:=by
 refine⟨aB,fun t=>?_,by simp[bk.1];omega,rfl,Ext.refl _ _⟩;rw[Wf,if_pos (fG _),Nat.sub_zero];by_cases aT:t<args.length
 . rw[gd aT]
   have:=bk.2 t _ (gd aT);have zG:t<jI.size:=by rw[bk.1];exact aT
   simpa[ih,Array.getElem?_append,zG] using this
 . rw[lJ (by omega)]
   exact .undef _
theorem Pf{f:Nat}{h:Hints}{fn:bu}(aC:bC P h f=some fn){args:List V}(hle:args.length<=fn.ntmps){R:V->Mem->Prop}{lM:Option V->Mem->Prop}(fg:dv P fn.body (pN fn.results lM) (rK args 0) M)
 (hh:∀(F:Func)(w0:World)(Γ0:Env)(s:aH)(ah:Mem)(a:Act)(w:World)(Γ:Env),Γ0.cW.length=M.length->ou P F.ntmps F.results.toList=some fn.results->cA w0 Γ0 F.ntmps w Γ s ah a->lM (pu s ah fn.results) ah->
   ∃v bl Γ' mb,(results F a.tmps).run P w=.ok bl w/\R v mb/\bp w Γ' v bl/\Good w Γ' mb/\Ext w0 Γ0 w Γ'):cj P f args M R:=by
 obtain⟨Mi,F,c,bP,ar,aEx,fk⟩:=aDJ aC;have aGn:fn.ntmps=F.ntmps:=by
  unfold bC at aC;simp only[bP,ar] at aC;cases aK:(F.name != "runtime.NumGoroutine") with
  |true=>
   simp only[aK,cond_true] at aC;split at aC
   . simp only[aV] at aC;rw[<-aC]
   . cases aC
  |false=>simp[aK] at aC
 refine⟨Mi,fun w Γ jI aB bk=>calls_of_wp bP ar (wp_mono (aNw 200 c fn.body aEx _ _ M _ w Γ (aA9 aB bk (by rw[<-aGn];exact hle)) fg) ?_)⟩;rintro e du w' ⟨Γ',aM,ah,bh,aG⟩;have fin:lM (pu aM ah fn.results) ah->du.defers=[]/\∃v,(results F du.tmps).run P w'=.ok v w'/\∃dV bl Ev mb,Ending.returned v=.returned bl/\R dV mb/\bp w' Ev dV bl/\Good w' Ev mb/\Ext w Γ w' Ev:=fun al=>by
  obtain⟨v,bl,Ev,mb,U,af,ay,be,bv⟩:=hh F w Γ aM ah du w' Γ' aB.len fk bh al;exact⟨bh.defers,bl,U,v,bl,Ev,mb,rfl,af,ay,be,bv⟩
 cases e with
 |normal=>exact fin aG
 |ret=>exact fin aG
 |exit id=>exact aG.elim
 |goto l=>exact aG.elim
 |panic jJ=>exact aG.elim
 |outgrown=>exact aG.elim
theorem hx{f:Nat}{h:Hints}{fn:bu}(aC:bC P h f=some fn){args:List V}(hle:args.length<=fn.ntmps){R:V->Mem->Prop}(fg:hq P fn args M R):cj P f args M R:=by
 refine Pf aC hle fg ?_;intro F w0 Γ0 s ah a w Γ ag fk bh al;unfold rq at al;split at al
 . rename_i v aq
   obtain⟨bl,U,af⟩:=VS bh fk aq;exact⟨v,bl,Γ,ah,af,al,U,bh.fY,bh.ext⟩
 . exact al.elim
theorem bZ{f:Nat}{h:Hints}{fn:bu}(aC:bC P h f=some fn){args:List V}(hle:args.length<=fn.ntmps){R:V->Mem->Prop}(fg:Xo P fn args M R):cj P f args M R:=by
 refine Pf aC hle fg ?_;intro F w0 Γ0 s ah a w Γ ag fk bh al;unfold Jv at al;split at al
 . rename_i v aq
   unfold lL at al;split at al
   . rename_i dV mS
     obtain⟨ar,fO⟩:=al;simp only[b_,decide_eq_true_eq] at ar;obtain⟨bl,U,af⟩:=VS bh fk aq;exact⟨dV,bl,Γ.je w M.length,_,af,fO,SK bh.fY 20 U mS,bh.fY.pop ar.1.2 ar.2,Ext.pop bh.fY bh.ext (by omega)⟩
   . exact al.elim
 . exact al.elim
end
end Go.aQ
namespace Go.aQ
open Go.RowKit (Below)
open Go.ChangeShapes Go.WideShapes
inductive gt where
 |bool
 |int (k:IntKind)
 |str
 |slice (row:List gt)
 deriving Inhabited
inductive l_:gt->V->Prop
 |bool (b:Bool):l_ .bool (.bool b)
 |int (k:IntKind) (n:Int) (h:(Lit.int k n).wf=true):l_ (.int k) (.int k n)
 |str (s:List UInt8) (h:s.length<=maxLen):l_ .str (.str s)
 |slice (row:List gt) (rows:List (List V)) (c:c3) (ar:c=.nil/\rows=[]∨c=.any) (ag:rows.length<=maxLen)
   (a7:∀(i:Nat)(r:List V),rows[i]? =some r->r.length=row.length)
   (h:∀(i:Nat)(r:List V)(j:Nat)(x:V)(e8:gt),rows[i]? =some r->r[j]? =some x->row[j]? =some e8->l_ e8 x):
   l_ (.slice row) (.slice rows c)
theorem l_.pure{e8:gt}{v:V}(h:l_ e8 v):v.kd=true:=by cases h<;>rfl
def mM(row:List gt)(vs:List V):Prop:=vs.length=row.length/\∀(j:Nat)(x:V)(e8:gt),vs[j]? =some x->row[j]? =some e8->l_ e8 x
def Bm(P:Program)(CA:TypeId->Option (List gt)):List Field->Nat->Option (List gt)
 |[],_=>some []
 |f::bO,off=>
  match CA f.type with
  |some r=>
   bif f.offset==off&&r.length==P.cellsOf f.type then
    match Bm P CA bO (off+r.length) with
    |some q=>some (r++q)
    |none=>none
   else none
  |none=>none
def d8(P:Program):Nat->TypeId->Option (List gt)
 |0,_=>none
 |n+1,t=>
  match P.underlying t with
  |some .bool=>some [.bool]
  |some (.int k)=>some [.int k]
  |some .string=>some [.str]
  |some (.slice e)=>
   match d8 P n e with
   |some r=>bif r.length==P.cellsOf e&&!r.isEmpty then some [.slice r] else none
   |none=>none
  |some (.struct bO)=>
   match Bm P (d8 P n) bO.toList 0 with
   |some r=>bif r.length==P.cellsOf t then some r else none
   |none=>none
  |_=>none
def OM(w:World)(Γ:Env)(e8:gt)(c:Value):Prop:=∃v,l_ e8 v/\bp w Γ v c
def r0(w:World)(Γ:Env)(iN:List gt)(cs:List Value):Prop:=
 cs.length=iN.length/\∀(j:Nat)(e8:gt)(c:Value),iN[j]? =some e8->cs[j]? =some c->OM w Γ e8 c
theorem r0.pick{w:World}{Γ:Env}{iN:List gt}{cs:List Value}(h:r0 w Γ iN cs):∃vs,mM iN vs/\ef w Γ vs cs.toArray:=by
 obtain⟨ag,h⟩:=h;induction iN generalizing cs with
 |nil=>
  have:cs=[]:=List.length_eq_zero_iff.1 ag;subst this;exact⟨[],⟨rfl,fun j x e8 h=>by simp at h⟩,rfl,fun j x h=>by simp at h⟩
 |cons e8 iN bq=>
  cases cs with
  |nil=>simp at ag
  |cons c cs=>
   obtain⟨vs,⟨cU,U⟩,eW,af⟩:=bq (cs:=cs) (by simpa using ag) (fun j e8 c ay be=>h (j+1) e8 c (by simpa using ay) (by simpa using be));obtain⟨v,aq,al⟩:=h 0 e8 c rfl rfl;refine⟨v::vs,⟨by simp[cU],fun j x QD ab pW=>?_⟩,by simpa using eW,fun j x ab=>?_⟩
   . cases j with
     |zero=>simp at ab pW;subst ab;subst pW;exact aq
     |succ j=>exact U j x QD (by simpa using ab) (by simpa using pW)
   . cases j with
     |zero=>simp at ab;subst ab;simpa[ih] using al
     |succ j=>
      have:=af j x (by simpa using ab);simpa[ih] using this
theorem r0.append{w:World}{Γ:Env}{eS gQ:List gt}{s1 ds:List Value}(U:r0 w Γ eS s1)(af:r0 w Γ gQ ds):r0 w Γ (eS++gQ) (s1++ds):=by
 refine⟨by simp[U.1,af.1],fun j e8 c a b=>?_⟩;by_cases ap:j<eS.length
 . rw[gh ap] at a
   rw[gh (by rw[U.1];exact ap)] at b;exact U.2 j e8 c a b
 . rw[jX (by omega)] at a
   rw[jX (by rw[U.1];omega),U.1] at b;exact af.2 _ e8 c a b
section
variable{H:Type}{enc:TypeId×Value->H}{P:Program}{w:World}{Γ:Env}
theorem Rr{CA:TypeId->Option (List gt)}{cs:List Value}
 :∀(bO:List Field)(off:Nat)(iN:List gt),Bm P CA bO off=some iN->off+iN.length<=cs.length->
  (∀(i:Nat)(f:Field)(r:List gt),bO[i]? =some f->CA f.type=some r->r.length=P.cellsOf f.type->(cs.drop f.offset).take (P.cellsOf f.type)=(cs.drop f.offset).take r.length->r0 w Γ r ((cs.drop f.offset).take r.length))->
  r0 w Γ iN ((cs.drop off).take iN.length)
 |[],off,iN,h,_,_=>by
  simp only[Bm,aV] at h;subst h;exact⟨by simp,fun j e8 c h=>by simp at h⟩
 |f::bO,off,iN,h,hle,aC=>by
  unfold Bm at h;split at h
  . rename_i r al
    cases aw:(f.offset==off&&r.length==P.cellsOf f.type) with
    |false=>simp[aw] at h
    |true=>
     simp only[aw,cond_true] at h;simp only[b_,beq_iff_eq] at aw;obtain⟨rfl,aw⟩:=aw;split at h
     . rename_i q aG
       simp only[aV] at h;subst h;have U:=aC 0 f r rfl al aw (by rw[aw]);have af:=Rr bO (f.offset+r.length) q aG (by simp at hle;omega) (fun i aBz gA a b c d=>aC (i+1) aBz gA (by simpa using a) b c d);have:=U.append af;have e:(cs.drop f.offset).take r.length++(cs.drop (f.offset+r.length)).take q.length=(cs.drop f.offset).take (r++q).length:=by
        rw[dT,List.take_add,List.drop_drop]
       rw[e] at this;exact this
     . cases h
  . cases h
theorem JS(di:∀b o v,w.cell? ⟨b,o,none⟩=some v->Γ.S b o):∀(n:Nat)(t:TypeId)(iN:List gt)(fuel:Nat)(cs:List Value)(x:DataW H×List MemPlace),
 d8 P n t=some iN->DataW.trod enc P w 0 (fun _=>true) true fuel t cs=some x->r0 w Γ iN cs
 |0,t,iN,fuel,cs,x,h,_=>by simp[d8] at h
 |n+1,t,iN,fuel,cs,x,h,ab=>by
  have one:∀{e8:gt}{c:Value},OM w Γ e8 c->r0 w Γ [e8] [c]:=fun ar=>⟨rfl,fun j QD c0 a b=>by
   cases j with
   |zero=>simp at a b;subst a;subst b;exact ar
   |succ j=>simp at a⟩;unfold d8 at h;split at h
  . rename_i hu
    simp only[aV] at h;subst h;obtain⟨b,rfl,_⟩:=DataW.trod_bool hu ab;exact one ⟨_,.bool b,.bool b⟩
  . rename_i k hu
    simp only[aV] at h;subst h;obtain⟨q,rfl,_,hw⟩:=DataW.trod_int hu ab;exact one ⟨_,.int k q hw,.int k q⟩
  . rename_i hu
    simp only[aV] at h;subst h;obtain⟨s,rfl,_,ag⟩:=DataW.trod_string hu ab;refine one ⟨.str s.data.toList,.str _ (by rw[Array.length_toList];exact ag),?_⟩;have:=bp.str (w:=w) (Γ:=Γ) s.data.toList;rw[Array.toArray_toList] at this;exact this
  . rename_i e hu
    split at h
    . rename_i row iq
      cases aw:(row.length==P.cellsOf e&&!row.isEmpty) with
      |false=>simp[aw] at h
      |true=>
       simp only[aw,cond_true,aV] at h;subst h;simp only[b_,beq_iff_eq,lH,List.isEmpty_eq_false_iff] at aw;obtain⟨a7,cr⟩:=aw;have pc:0<row.length:=List.length_pos_iff.2 cr;rcases DataW.trod_slice hu ab with⟨rfl,_⟩|⟨a,len,cap,aA5,dD,m,_,rfl,_,_,hle,xo,hlen,G9,MJ,_⟩
       . exact one ⟨.slice [] .nil,.slice row [] .nil (.inl ⟨rfl,rfl⟩) (fG _) (fun i r h=>by simp at h) (fun i r j x e8 h=>by simp at h),.iE _ (.inl rfl)⟩
       . by_cases tx:cap=0
         . subst tx
           have iX:len=0:=by omega
           subst iX;exact one ⟨.slice [] .any,.slice row [] .any (.inr rfl) (fG _) (fun i r h=>by simp at h) (fun i r j x e8 h=>by simp at h),.lE _ (by simp) _⟩
         . have To:∀i,i<len->∃bI y,w.cells? 0 (a.add (i*P.cellsOf e)) (P.cellsOf e)=some bI/\DataW.trod enc P w 0 (fun _=>true) true m e bI=some y:=fun i hi=>by
            have:=G9 i hi;rw[gd (by omega)] at this;obtain⟨bI,U,af⟩:=Option.bind_eq_some_iff.1 this;exact⟨bI,_,U,af⟩
           have T7:a.spot=none:=by
            have:∃bI,w.cells? 0 a (P.cellsOf e)=some bI:=by
             have gm:a.add (0*P.cellsOf e)=a:=by rw[Nat.zero_mul,Addr.add,if_pos rfl]
             by_cases iX:0<len
             . obtain⟨bI,_,U,_⟩:=To 0 iX
               exact⟨bI,by rw[<-U,gm]⟩
             . obtain⟨U,af⟩:=MJ rfl
               have:=af 0 (by omega);rw[gd (by omega)] at this;obtain⟨bI,ay,_⟩:=Option.bind_eq_some_iff.1 this;have iX:len=0:=by omega
               subst iX;exact⟨bI,by rw[<-ay,iJ,gm]⟩
            obtain⟨bI,U⟩:=this;obtain⟨_,ag,ar⟩:=World.cells?_some U;have:=ar 0 (by omega);rw[gd (by omega),Addr.add,if_pos rfl] at this;exact World.cell?_spot this
           obtain⟨b,off,spot⟩:=a;simp only at T7;subst T7;have dL:∀i j,∃v,i<len->j<row.length->∃c,w.cell? ⟨b,off+(i*row.length+j),none⟩=some c/\(∀e8,row[j]? =some e8->l_ e8 v)/\bp w Γ v c:=fun i j=>by
            by_cases hi:i<len
            . by_cases ap:j<row.length
              . obtain⟨bI,y,U,af⟩:=To i hi
                obtain⟨_,ag,ar⟩:=World.cells?_some U;have al:=JS di n e row m bI y iq af;have tG:j<bI.length:=by rw[al.1];exact ap
                obtain⟨v,aq,fS⟩:=al.2 j row[j] bI[j] (gd ap) (gd tG);refine⟨v,fun _ _=>⟨bI[j],?_,fun e8 pW=>?_,fS⟩⟩
                . have:=ar j (by omega)
                  rw[gd tG] at this;rw[<-this,<-a7,Addr.lh,Addr.lh,kM]
                . rw[gd ap] at pW
                  simp only[aV] at pW;rw[<-pW];exact aq
              . exact⟨.undef,fun _ h=>absurd h ap⟩
            . exact⟨.undef,fun h=>absurd h hi⟩
           obtain⟨f,aC⟩:=Classical.axiomOfChoice (fun(Uk:Nat×Nat)=>dL Uk.1 Uk.2);let rows:=(c1 len).map fun i=>(c1 row.length).map fun j=>f (i,j)
           have sv:rows.length=len:=by simp[rows]
           have gr:∀(i:Nat)(r:List V),rows[i]? =some r->i<len/\r=(c1 row.length).map fun j=>f (i,j):=fun i r al=>by
            have hi:i<len:=by rw[<-sv];exact(bn.1 al).1
            simp only[rows,gY,List.getElem?_range hi,mI,aV] at al;exact⟨hi,al.symm⟩
           have Mh:∀(i:Nat)(r:List V)(j:Nat)(x:V),rows[i]? =some r->r[j]? =some x->i<len/\j<row.length/\x=f (i,j):=fun i r j x al ab=>by
            obtain⟨hi,rfl⟩:=gr i r al;have ap:j<row.length:=by simpa using(bn.1 ab).1
            simp only[gY,List.getElem?_range ap,mI,aV] at ab;exact⟨hi,ap,ab.symm⟩
           have Tw:∀(i:Nat)(r:List V)(j:Nat)(x:V)(e8:gt),rows[i]? =some r->r[j]? =some x->row[j]? =some e8->l_ e8 x:=fun i r j x e8 al ab pW=>by
            obtain⟨hi,ap,rfl⟩:=Mh i r j x al ab;obtain⟨c,U,af,ay⟩:=aC (i,j) hi ap;exact af e8 pW
           refine one ⟨.slice rows .any,.slice row rows .any (.inr rfl) (by omega) (fun i r al=>?_) Tw,?_⟩
           . obtain⟨_,rfl⟩:=gr i r al
             simp
           . have:=bp.slice (w:=w) (Γ:=Γ) rows .any b off row.length cap (fun i j=>(w.cell? ⟨b,off+(i*row.length+j),none⟩).getD Go.undef) (by simp) (by simp) (by omega)
              (fun i r al=>by obtain⟨_,rfl⟩:=gr i r al;simp)
              (fun i j hi ap=>by
                obtain⟨c,U,_⟩:=aC (i,j) (by omega) ap;exact di _ _ _ U)
              (fun i j hi ap=>by
                obtain⟨c,U,_⟩:=aC (i,j) (by omega) ap;simp only at U;rw[U];rfl)
              (fun i r j x al ab=>by
                obtain⟨hi,ap,rfl⟩:=Mh i r j x al ab;exact(Tw i r j _ row[j] al ab (gd ap)).pure)
              (fun i r j x al ab=>by
                obtain⟨hi,ap,rfl⟩:=Mh i r j x al ab;obtain⟨c,U,_,ay⟩:=aC (i,j) hi ap;simp only at U;rw[U];exact ay)
             rw[sv] at this;exact this
    . cases h
  . rename_i bO hu
    split at h
    . rename_i r al
      obtain⟨aw,rfl⟩:=fe h;have aw:r.length=P.cellsOf t:=by simpa using aw
      obtain⟨xs,m,_,_,ag,vv,gr⟩:=DataW.trod_struct hu ab;have:=Rr (w:=w) (Γ:=Γ) (cs:=cs) bO.toList 0 r al (by omega) (fun i f V4 aC aB hlen _=>by
       have Tq:bO[i]? =some f:=by simpa using aC
       have hi:i<bO.size:=(la.1 Tq).1;have U:=gr i f Tq;rw[gd (by omega)] at U;rw[<-hlen] at U;exact JS di n f.type V4 m _ _ aB U);rw[l9,g1 (by omega)] at this;exact this
    . cases h
  . cases h
end
end Go.aQ
namespace Go.aQ
open Go.RowKit (Below)
open Go.ChangeShapes Go.WideShapes
inductive rZ where
 |cell (e8:gt)
 |agg (row:List gt)
def Ka:rZ->V->Prop
 |.cell e8,v=>l_ e8 v
 |.agg row,v=>∃vs,v=.agg vs/\mM row vs
def uE:List rZ->List V->Prop
 |[],xs=>xs=[]
 |p::cP,xs=>∃x bG,xs=x::bG/\Ka p x/\uE cP bG
def NA(P:Program)(t:TypeId):Option rZ:=
 match P.underlying t with
 |some (.struct _)=>(d8 P 12 t).map .agg
 |_=>
  match d8 P 12 t with
  |some [e8]=>some (.cell e8)
  |_=>none
def Aj(P:Program):List TypeId->Option (List rZ)
 |[]=>some []
 |t::d5=>
  match NA P t,Aj P d5 with
  |some p,some cP=>some (p::cP)
  |_,_=>none
section
variable{H:Type}{enc:TypeId×Value->H}{P:Program}{w:World}{Γ:Env}
theorem aB4{n:Nat}{t:TypeId}{e8:gt}(h:d8 P n t=some [e8])(sr:∀bO,P.underlying t≠some (.struct bO)){r:Reach}{cq:Nat}{v:Value}(aq:Value.okWide P w r cq t v):v.cells=#[v]:=by
 cases n with
 |zero=>simp[d8] at h
 |succ n=>
  unfold d8 at h;split at h
  . rename_i hu
    obtain⟨b,rfl⟩:=okWide_bool hu aq;rfl
  . rename_i k hu
    obtain⟨b,rfl⟩:=okWide_int hu aq;rfl
  . rename_i hu
    obtain⟨b,rfl⟩:=okWide_string hu aq;rfl
  . rename_i e hu
    obtain⟨a,b,c,rfl⟩:=okWide_slice hu aq;rfl
  . rename_i bO hu
    exact absurd hu (sr bO)
  . cases h
theorem aa1(di:∀b o v,w.cell? ⟨b,o,none⟩=some v->Γ.S b o){r:Reach}{cq:Nat}{t:TypeId}{v:Value}{d:DataW H}{p:List MemPlace}{D8:rZ}(pe:NA P t=some D8)
 (aq:Value.okWide P w r cq t v)(h:DataW.Trod enc P w 0 (fun _=>true) true t v d p):∃x,Ka D8 x/\bp w Γ x v:=by
 obtain⟨fuel,aC⟩:=h;unfold NA at pe;split at pe
 . rename_i bO hu
   obtain⟨cs,rfl,ag⟩:=okWide_struct hu aq;obtain⟨row,iq,rfl⟩:=dJ.1 pe;have:=JS (Γ:=Γ) di _ _ _ _ _ _ iq aC;obtain⟨vs,U,af,ay⟩:=this.pick;refine⟨.agg vs,⟨vs,rfl,U⟩,.agg vs cs ?_ ?_⟩
   . simpa[Value.cells] using af
   . simpa[Value.cells] using ay
 . rename_i sr
   split at pe
   . rename_i e8 pW
     simp only[aV] at pe;subst pe;have ar:=aB4 pW sr aq;rw[ar] at aC;have:=JS (Γ:=Γ) di _ _ _ _ _ _ pW aC;obtain⟨x,U,af⟩:=this.2 0 e8 v rfl rfl;exact⟨x,U,af⟩
   . cases pe
theorem PK(di:∀b o v,w.cell? ⟨b,o,none⟩=some v->Γ.S b o){r:Reach}{cq:Nat}:∀(d5:List TypeId)(vs:List Value)(bI:List (DataW H))(p:List MemPlace)(pts:List rZ),
 DataW.TrodAll enc P w 0 (fun _=>true) true d5 vs bI p->(∀(j:Nat) t v,d5[j]? =some t->vs[j]? =some v->Value.okWide P w r cq t v)->Aj P d5=some pts->
 ∃xs,uE pts xs/\xs.length=vs.length/\bI.length=pts.length/\∀(j:Nat)(x:V)(v:Value),xs[j]? =some x->vs[j]? =some v->bp w Γ x v
 |[],vs,bI,p,pts,h,_,ax=>by
  simp only[Aj,aV] at ax;subst ax;obtain⟨rfl,rfl,rfl⟩:=trodAll_nil h;exact⟨[],rfl,rfl,rfl,fun j x v h=>by simp at h⟩
 |t::d5,vs,bI,p,pts,h,bR,ax=>by
  obtain⟨v,Ox,d,K1,a,b,rfl,rfl,rfl,U,af⟩:=trodAll_cons h;simp only[Aj] at ax;split at ax
  . rename_i D8 cP pe e2
    simp only[aV] at ax;subst ax;obtain⟨x,ab,al⟩:=aa1 (Γ:=Γ) di pe (bR 0 t v rfl rfl) U;obtain⟨xs,vv,ag,hU,lW⟩:=PK di d5 Ox K1 b cP af (fun j gD dV aT aq=>bR (j+1) gD dV (by simpa using aT) (by simpa using aq)) e2;refine⟨x::xs,⟨x,xs,rfl,ab,vv⟩,by simp[ag],by simp[hU],fun j y dV aD aq=>?_⟩;cases j with
    |zero=>simp at aD aq;subst aD;subst aq;exact al
    |succ j=>exact lW j y dV (by simpa using aD) (by simpa using aq)
  . cases ax
theorem WZ{W yS:World}(ag:laidOutB P=true)(aj:Below W.heap.size W yS):∀(d5:List TypeId)(vs:List Value)(bI:List (DataW H))(p:List MemPlace),
 (∀t∈d5,P.readableRec t=true/\t<P.types.size)->DataW.TrodAll enc P W 0 (fun _=>true) true d5 vs bI p->(∀x∈p,x.block<W.heap.size)->
 DataW.TrodAll enc P yS 0 (fun b=>decide (b<W.heap.size)) true d5 vs bI p
 |[],vs,bI,p,_,h,_=>by
  obtain⟨rfl,rfl,rfl⟩:=trodAll_nil h;exact trodAll_mk0
 |t::d5,vs,bI,p,al,h,ax=>by
  obtain⟨v,Ox,d,K1,a,b,rfl,rfl,rfl,U,af⟩:=trodAll_cons h;have ay:=al t (by simp);exact⟨a,b,Below.trod ag ay.1 ay.2 U aj (fun x ab=>ax x (by simp[ab])),WZ ag aj d5 Ox K1 b (fun gD aT=>al gD (by simp[aT])) af (fun x ab=>ax x (by simp[ab])),rfl⟩
end
def VK(P:Program)(d5:List TypeId):Bool:=d5.all fun t=>P.readableRec t&&decide (t<P.types.size)
def Env.start(w:World):Env:=⟨w.heap.size,[],fun b o=>∃v,w.cell? ⟨b,o,none⟩=some v⟩
theorem Good.start(w:World)(hf:∀w',Below w.heap.size w w'->GT w'):Good w (Env.start w) [] where
 len:=rfl
 eG i l B h:=by simp[Env.start] at h
 cq i l h:=by simp[Env.start] at h
 inj i j l l' h:=by simp[Env.start] at h
 jC b o h:=h
 base:=cF _
 jE:=hf
theorem aH5{H:Type}{enc:TypeId×Value->H}{C:Checked}{f:FuncId}{fn:Func}{s:ChangeSpec}{fresh LP:Bool}{pts:List rZ}{tb:TypeId}
 (M4:laidOutB C.prog=true)(Hr:s.vars=[])(ak:∀bI:List (DataW H),bI.length=pts.length->s.fn H bI={results:=[.lit (.bool true)],args:=bI})
 (pe:Aj C.prog fn.params.toList=some pts)(ME:VK C.prog fn.params.toList=true)(fk:fn.resultTypes=#[tb]) (MK:C.prog.underlying tb=some .bool)
 (DP:∀xs,uE pts xs->cj C.prog f xs [] (fun v _=>v=.bool true)) (W:World) (hf:∀w',Below W.heap.size W w'->GT w') (base:Nat) (args:Array Value) (bI gs:List (DataW H)) (before:List MemPlace)
 (rm:∀(j:Nat) t v,fn.params[j]? =some t->args[j]? =some v->Value.okWide C.prog W .any base t v) (eu:DataW.Whole enc C.prog fn.params.toList s.vars false W args.toList bI gs before):
 Calls C.prog f args W fun e yS=>∃v,e=.returned v/\s.post enc C.prog fn false fresh LP false W args v yS:=by
 have aEk:=eu;have bw:=eu.lt;obtain⟨p,q,et,lQ,rfl,mS,TO⟩:=eu;rw[Hr] at lQ;obtain⟨rfl,rfl⟩:=trodVars_none lQ;obtain⟨xs,vv,ag,hU,fS⟩:=PK (Γ:=Env.start W) (fun b o v h=>⟨v,h⟩) fn.params.toList args.toList bI p pts et (fun j t v aT aq=>rm j t v (by simpa using aT) (by simpa using aq)) pe;have n8:ef W (Env.start W) xs args:=⟨by simpa using ag.symm,fun j x ab=>by
  have ap:j<xs.length:=(bn.1 ab).1;have tG:j<args.size:=by simpa[ag] using ap
  have:=fS j x args[j] ab (by simp[tG]);rw[ih,Array.getElem?_eq_getElem tG];exact this⟩;refine((DP xs vv).2 W (Env.start W) args (Good.start W hf) n8).mono fun e yS he=>?_;obtain⟨v,bl,Γ',ah,rfl,rfl,al,_,tC⟩:=he;have aj:Below W.heap.size W yS:=tC.below;cases al with
 |bool=>
  have Md:=ak bI hU;refine⟨_,rfl,bI,[],p++[],[],p,[],aEk,?_,?_,?_,aj.frame _,fun h=>by cases h⟩
  . rw[fU,Md,fk]
    exact trodAll_mk1 (Go.RowKit.shut_bool MK _)
  . rw[fU,Md]
    exact WZ M4 aj _ _ _ _ (fun t aT=>by
     have:=List.all_eq_true.1 ME t aT;simpa using this) et (fun x ab=>bw x (by simp[ab]))
  . rw[fU,Md,Hr]
    rfl
theorem aIn{H:Type}{enc:TypeId×Value->H}{C:Checked}{os:Os}{f:FuncId}{fn:Func}{s:ChangeSpec}{QA:List PathCond}{fresh LP:Bool}{pts:List rZ}{tb:TypeId}{a:Assume}
 (own:ownKnob C.prog.godebug=none)(M4:laidOutB C.prog=true)(Eg:os.Started)(aJG:C.prog.inits.idxOf? f=none)(Mc:C.prog.funcs[f]? =some fn)
 (Hr:s.vars=[])(ak:∀bI:List (DataW H),bI.length=pts.length->s.fn H bI={results:=[.lit (.bool true)],args:=bI})
 (pe:Aj C.prog fn.params.toList=some pts)(ME:VK C.prog fn.params.toList=true)(fk:fn.resultTypes=#[tb]) (MK:C.prog.underlying tb=some .bool)
 (aNl:∃(w:World)(tape:Tape)(i:Input),w.os=os/\(w.forCall tape i).Shaped C.prog/\i.vars=[]/\Input.okWide C.prog (w.forCall tape i) .any w.heap.size f i/\
   s.pre6 enc C.prog fn QA false (w.forCall tape i).memory i.args/\a.holds C.prog (lone (Frame.enter C.prog f i.args .normal) [] (w.forCall tape i)))
 (DP:∀xs,uE pts xs->cj C.prog f xs [] (fun v _=>v=.bool true)) (fL:∀w:World,GT w:=by exact fun _=>trivial):
 ReturnsInHanded a C os f .any (s.pre6 enc C.prog fn QA false) (s.post enc C.prog fn false fresh LP false):=
 returnsInHanded_of_change (C:=C) own Eg aJG Mc aNl fun W base args bI gs before rm eu _ _=>
  aH5 M4 Hr ak pe ME fk MK DP W (fun w' _=>fL w') base args bI gs before rm eu
end Go.aQ
namespace Go.aQ
abbrev oJ:=Nat->List V->Mem->Option (V×Mem)
abbrev Out:=Exit×aH×Mem
def wT(cM:oJ)(q:Bool)(f:Nat)(args:List V)(M:Mem):Option (V×Mem):=
 match q with
 |false=>cM f args M
 |true=>
  bif cS 0 args then
   match cM f args [] with
   |some (v,[])=>bif v.under 0 then some (v,M) else none
   |_=>none
  else none
def K6(cM:oJ)(q:Bool)(f:V)(args:List V)(M:Mem):Option (V×Mem):=
 match f with
 |.dH f da=>wT cM q f (args++da) M
 |.fn f da=>wT cM q f (args++da) M
 |_=>none
def Be(s:aH)(dst:Option Nat)(bx:Bool)(r:Option (V×Mem)):Option (aH×Mem):=
 match r with
 |some (v,M)=>
  match bx with
  |true=>match v with|.bool b=>some (bA s dst (.bool b),M)|_=>none
  |false=>some (bA s dst v,M)
 |none=>none
def y9(cM:oJ)(q:Bool)(o:dK)(dst:Option Nat)(bx:Bool)(s:aH)(M:Mem):Option (aH×Mem):=
 match o with
 |.call f args=>Be s dst bx (wT cM q f (e9 s args) M)
 |.hd ju args=>Be s dst bx (K6 cM q (aN s ju) (e9 s args) M)
 |op=>
  match op.hl with
  |true=>match m3 op s M with|some (v,ah)=>some (bA s dst v,ah)|none=>none
  |false=>Be s dst bx (match hL op s M with|some v=>some (v,M)|none=>none)
def tg(cM:oJ)(q:Bool):List bt->aH->Mem->Option (aH×Mem)
 |[],s,M=>some (s,M)
 |⟨dst,op,bx,none⟩::os,s,M=>
  match y9 cM q op dst bx s M with
  |some (aM,ah)=>tg cM q os aM ah
  |none=>none
 |⟨dst,op,bx,some (g,gN)⟩::os,s,M=>
  match aY s g with
  |.bool b=>
   bif b==gN then
    match y9 cM q op dst bx (eK s g (.bool b)) M with
    |some (aM,ah)=>tg cM q os aM ah
    |none=>none
   else tg cM q os (bA (eK s g (.bool b)) dst (.tuple [])) M
  |.tuple []=>tg cM q os (bA s dst (.tuple [])) M
  |_=>none
def Bc(cM:oJ)(q:Bool)(o:bt)(s:aH)(M:Mem):Option (aH×Mem):=
 match o with
 |⟨dst,op,bx,none⟩=>y9 cM q op dst bx s M
 |⟨dst,op,bx,some (g,gN)⟩=>
  match aY s g with
  |.bool b=>
   bif b==gN then y9 cM q op dst bx (eK s g (.bool b)) M
   else some (bA (eK s g (.bool b)) dst (.tuple []),M)
  |.tuple []=>some (bA s dst (.tuple []),M)
  |_=>none
def y7(cM:oJ):List bt->List Bool->aH->Mem->Option (aH×Mem)
 |o::os,q::dN,s,M=>
  match Bc cM q o s M with
  |some (aM,ah)=>y7 cM os dN aM ah
  |none=>none
 |_,_,s,M=>some (s,M)
mutual
def jV:V->V->Bool
 |.undef,.undef=>true
 |.bool a,.bool b=>a==b
 |.int k a,.int dj b=>decide (k=dj)&&decide (a=b)
 |.str a,.str b=>decide (a=b)
 |.dm,.dm=>true
 |.gu,.gu=>true
 |.jB,.jB=>true
 |.slice a c,.slice b d=>AC a b&&decide (c=d)
 |.gC a,.gC b=>oA a b
 |.cN a,.cN b=>oA a b
 |.dH f a,.dH g b=>ep f g&&oA a b
 |.ptr i o,.ptr j p=>ep i j&&ep o p
 |.fo i v r o,.fo eI dV gA o'=>ep i eI&&ep v dV&&ep r gA&&ep o o'
 |.aX i v r o,.aX eI dV gA o'=>ep i eI&&ep v dV&&ep r gA&&ep o o'
 |.map i,.map j=>ep i j
 |.fn f a,.fn g b=>ep f g&&oA a b
 |.agg a,.agg b=>oA a b
 |.tuple a,.tuple b=>oA a b
 |_,_=>false
def oA:List V->List V->Bool
 |[],[]=>true
 |x::xs,y::bG=>jV x y&&oA xs bG
 |_,_=>false
def AC:List (List V)->List (List V)->Bool
 |[],[]=>true
 |x::xs,y::bG=>oA x y&&AC xs bG
 |_,_=>false
end
def Bb:List (Nat×bt×aH×V)->Nat->Option (bt×aH×V)
 |[],_=>none
 |(i,x)::H,j=>match ep i j with|true=>some x|false=>Bb H j
def Um:V->Bool
 |.bool _=>true
 |_=>false
def K4(cM:oJ)(o:bt)(s:aH)(v:V)(M:Mem):Bool:=
 match o.op with
 |.call f args=>(match wT cM true f (e9 s args) M with|some (x,_)=>jV x v|none=>false)&&(!o.bx||Um v)
 |op=>(match hL op s M with|some x=>jV x v|none=>false)
def Ba(cM:oJ)(H:List (Nat×bt×aH×V)):List Nat->Mem->Bool
 |[],_=>true
 |j::z6,M=>
  (match Bb H j with
   |some (o,s,v)=>K4 cM o s v M
   |none=>false)&&Ba cM H z6 M
def uV(cM:oJ):List bt->List (Option (List Nat))->Nat->List (Nat×bt×aH×V)->aH->Mem->Option (aH×Mem)
 |o::os,none::bO,n,H,s,M=>
  match Bc cM true o s M with
  |some (aM,ah)=>uV cM os bO (n+1) ((n,o,s,pM aM o.dst)::H) aM ah
  |none=>none
 |o::os,some l::bO,n,H,s,M=>
  match Bc cM false o s M with
  |some (aM,ah)=>bif Ba cM H l ah then uV cM os bO (n+1) H aM ah else none
  |none=>none
 |_,_,_,_,s,M=>some (s,M)
def uW(body:aH->Mem->Option Out)(live:List Nat)(len:Nat):Nat->List V->Mem->Option Out
 |0,_,_=>none
 |k+1,vs,M=>
  match body (k_ live vs) M with
  |some (.normal,s,ah)=>bif hK len (dt s live) ah then uW body live len k (dt s live) (ah.take len) else uW body live len k (dt s live) ah
  |r=>r
def oV(dD:aH->Mem->Option Out)(l:Nat)(live:List Nat):Nat->Option Out->Option Out
 |0,_=>none
 |k+1,some (.goto l',s,M)=>bif l'==l then oV dD l live k (dD (k_ live (dt s live)) M) else none
 |_+1,r=>r
def gn(cM:oJ):Nat->bc->aH->Mem->Option Out
 |0,_,_,_=>none
 |n+1,c,s,M=>
  match c with
  |.skip=>some (.normal,s,M)
  |.label=>some (.normal,s,M)
  |.region aF live=>match tg cM false aF s M with|some (aM,ah)=>some (.normal,gW aM live,ah)|none=>none
  |.mixed aF dN live=>match y7 cM aF dN s M with|some (aM,ah)=>some (.normal,gW aM live,ah)|none=>none
  |.sd _ _ _ _ _=>none
  |.float aF bJ live=>match uV cM aF bJ 0 [] s M with|some (aM,ah)=>some (.normal,gW aM live,ah)|none=>none
  |.seq a b=>
   match gn cM n a s M with
   |some (.normal,aM,ah)=>gn cM n b aM ah
   |r=>r
  |.cond c a b=>
   match aN s c with
   |.bool true=>gn cM n a s M
   |.bool false=>gn cM n b s M
   |_=>none
  |.block id a=>
   match gn cM n a s M with
   |some (.exit nA,aM,ah)=>bif nA==id then some (.normal,aM,ah) else some (.exit nA,aM,ah)
   |r=>r
  |.loop live a=>uW (gn cM n a) live M.length n (dt s live) M
  |.scope l live a dD=>oV (gn cM n dD) l live n (gn cM n a s M)
  |.exit id=>some (.exit id,s,M)
  |.goto l=>some (.goto l,s,M)
  |.ret=>some (.ret,s,M)
abbrev AM:=Nat->Option (bu×Bool)
def wU(fn:bu)(fJ:Bool)(base:Nat)(s:aH)(ah:Mem):Option (V×Mem):=
 match pu s ah fn.results with
 |some v=>
  match fJ with
  |true=>some (v,ah)
  |false=>
   match fu ah base 20 v with
   |some dV=>bif dV.under base&&decide (base<=ah.length)&&cL base (ah.take base) then some (dV,ah.take base) else none
   |none=>none
 |none=>none
section
variable{P:Program}{cM:oJ}
def qA(P:Program)(cM:oJ):Prop:=∀f args M v ah,cM f args M=some (v,ah)->cj P f args M (fun x N=>x=v/\N=ah)
theorem Fi(de:qA P cM){q:Bool}{f:Nat}{args:List V}{M:Mem}{v:V}{ah:Mem}(h:wT cM q f args M=some (v,ah)){K:V->Mem->Prop}(ao:K v ah):oD P q f args M K:=by
 cases q with
 |false=>exact(de _ _ _ _ _ h).mono fun x N ⟨a6,ba⟩=>by rw[a6,ba];exact ao
 |true=>
  simp only[wT] at h;cases hu:cS 0 args with
  |false=>simp[hu] at h
  |true=>
   simp only[hu,cond_true] at h;split at h
   . rename_i ae ar
     obtain⟨aC,e⟩:=fe h;simp only[dX] at e;obtain⟨rfl,rfl⟩:=e;have ax:bQ P f args (fun x=>x=ae):=(de _ _ _ _ _ ar).mono fun x N ⟨a6,ba⟩=>⟨a6,ba,by rw[a6];exact aC⟩;exact⟨ae,bQ.call ax hu (fun x ab _=>⟨ab,rfl⟩),ao⟩
   . cases h
theorem aBh(de:qA P cM){q:Bool}{f:V}{args:List V}{M:Mem}{v:V}{ah:Mem}(h:K6 cM q f args M=some (v,ah)){K:V->Mem->Prop}(ao:K v ah):mE P q f args M K:=by
 unfold K6 at h;split at h
 . exact Fi de h ao
 . exact Fi de h ao
 . cases h
theorem K9{s:aH}{dst:Option Nat}{bx:Bool}{r:Option (V×Mem)}{aM:aH}{ah:Mem}(h:Be s dst bx r=some (aM,ah)):
 ∃v,r=some (v,ah)/\∀K:aH->Prop,K aM->kC s dst bx v K:=by
 unfold Be at h;split at h
 . rename_i v cz
   split at h
   . split at h
     . simp only[aV,dX] at h
       obtain⟨rfl,rfl⟩:=h;exact⟨_,rfl,fun K ao=>ao⟩
     . cases h
   . simp only[aV,dX] at h
     obtain⟨rfl,rfl⟩:=h;exact⟨_,rfl,fun K ao=>ao⟩
 . cases h
theorem Fj(de:qA P cM){q:Bool}{o:dK}{dst:Option Nat}{bx:Bool}{s:aH}{M:Mem}{aM:aH}{ah:Mem}(h:y9 cM q o dst bx s M=some (aM,ah)){K:aH->Mem->Prop}(ao:K aM ah):wpOp P q o dst bx s M K:=by
 unfold y9 at h;unfold wpOp;split at h
 . obtain⟨v,aq,ax⟩:=K9 h
   exact Fi de aq (ax _ ao)
 . obtain⟨v,aq,ax⟩:=K9 h
   exact aBh de aq (ax _ ao)
 . rename_i op xq aGk
   split
   . exact absurd rfl (xq _ _)
   . exact absurd rfl (aGk _ _)
   . simp[dK.hl,m3] at h
   . rename_i neg x y
     simp only[dK.hl,m3] at h;split at h
     . rename_i v cz ak
       simp only[aV,dX] at h;obtain⟨rfl,rfl⟩:=h;unfold sV;cases aC:w5 (aN s x) (aN s y) with
       |true=>
        unfold w5 at aC;split at aC
        . rename_i a6 ba
          rw[a6,ba] at ak;cases ak
        . cases aC
       |false=>
        show s4 _ _;rw[ak];exact ao
     . cases h
   . split at h
     . rename_i hm
       rw[hm];split at h
       . rename_i v cz ak
         simp only[aV,dX] at h;obtain⟨rfl,rfl⟩:=h;rw[ak];exact ao
       . cases h
     . rename_i hm
       rw[hm];obtain⟨v,aq,ax⟩:=K9 h;split at aq
       . rename_i nc ak
         simp only[aV,dX] at aq;obtain⟨rfl,rfl⟩:=aq;have:=ax (fun aM=>K aM M) ao;rw[ak];cases bx with
         |true=>exact this
         |false=>exact this
       . cases aq
theorem Bd(de:qA P cM){q:Bool}:∀(os:List bt)(s:aH)(M:Mem)(aM:aH)(ah:Mem),tg cM q os s M=some (aM,ah)->∀K:aH->Mem->Prop,K aM ah->wpOps P q os s M K
 |[],s,M,aM,ah,h,K,ao=>by
  simp only[tg,aV,dX] at h;obtain⟨rfl,rfl⟩:=h;exact ao
 |⟨dst,op,bx,none⟩::os,s,M,aM,ah,h,K,ao=>by
  unfold tg at h;split at h
  . rename_i s1 cz U
    exact Fj de U (Bd de os _ _ _ _ h K ao)
  . cases h
 |⟨dst,op,bx,some (g,gN)⟩::os,s,M,aM,ah,h,K,ao=>by
  unfold tg at h;unfold wpOps;split at h
  . rename_i b aj
    rw[aj];cases si:(b==gN) with
    |true=>
     have:b=gN:=by simpa using si
     subst this;simp only[si,cond_true] at h;split at h
     . rename_i s1 cz U
       have af:=Fj (P:=P) de U (K:=fun aM ah=>wpOps P q os aM ah K) (Bd de os _ _ _ _ h K ao);cases b with
       |true=>exact af
       |false=>exact af
     . cases h
    |false=>
     simp only[si,cond_false] at h;have af:=Bd de os _ _ _ _ h K ao;cases b<;>cases gN<;>simp at si
     . exact af
     . exact af
  . rename_i aj
    rw[aj];exact Bd de os _ _ _ _ h K ao
  . cases h
theorem K8(de:qA P cM){q:Bool}{o:bt}{s:aH}{M:Mem}{aM:aH}{ah:Mem}(h:Bc cM q o s M=some (aM,ah)){K:aH->Mem->Prop}(ao:K aM ah):hr P q o s M K:=by
 obtain⟨dst,op,bx,g⟩:=o;cases g with
 |none=>exact Fj de h ao
 |some np=>
  obtain⟨g,gN⟩:=np;unfold Bc at h;unfold hr;simp only at h⊢;split at h
  . rename_i b aj
    rw[aj];simp only;cases si:(b==gN) with
    |true=>
     have:b=gN:=by simpa using si
     subst this;simp only[si,cond_true] at h;cases b<;>exact Fj de h ao
    |false=>
     simp only[si,cond_false,aV,dX] at h;obtain⟨rfl,rfl⟩:=h;cases b<;>cases gN<;>simp at si<;>exact ao
  . rename_i aj
    rw[aj];simp only[aV,dX] at h;obtain⟨rfl,rfl⟩:=h;exact ao
  . cases h
theorem Q8(de:qA P cM):∀(os:List bt)(dN:List Bool)(s:aH)(M:Mem)(aM:aH)(ah:Mem),y7 cM os dN s M=some (aM,ah)->∀K:aH->Mem->Prop,K aM ah->uw P os dN s M K
 |o::os,q::dN,s,M,aM,ah,h,K,ao=>by
  unfold y7 at h;split at h
  . rename_i s1 cz U
    exact K8 de U (Q8 de os dN _ _ _ _ h K ao)
  . cases h
 |[],dN,s,M,aM,ah,h,K,ao=>by
  simp only[y7,aV,dX] at h;obtain⟨rfl,rfl⟩:=h;exact ao
 |o::os,[],s,M,aM,ah,h,K,ao=>by
  simp only[y7,aV,dX] at h;obtain⟨rfl,rfl⟩:=h;exact ao
mutual
theorem Oq:∀{x y:V},jV x y=true->x=y
 |.undef,y,h=>by cases y<;>simp[jV] at h⊢
 |.bool a,y,h=>by cases y<;>simp[jV] at h⊢;exact h
 |.int k a,y,h=>by cases y<;>simp[jV] at h⊢;exact h
 |.str a,y,h=>by cases y<;>simp[jV] at h⊢;exact h
 |.dm,y,h=>by cases y<;>simp[jV] at h⊢
 |.gu,y,h=>by cases y<;>simp[jV] at h⊢
 |.jB,y,h=>by cases y<;>simp[jV] at h⊢
 |.slice a c,y,h=>by
  cases y<;>simp only[jV,i_,b_,decide_eq_true_eq] at h;rw[Xc h.1,h.2]
 |.gC a,y,h=>by
  cases y<;>simp only[jV,i_] at h;rw[ut h]
 |.cN a,y,h=>by
  cases y<;>simp only[jV,i_] at h;rw[ut h]
 |.dH f a,y,h=>by
  cases y<;>simp only[jV,i_,b_] at h;rw[ut h.2,oI h.1]
 |.ptr i o,y,h=>by cases y<;>simp[jV] at h⊢;exact h
 |.fo i v r o,y,h=>by
  cases y<;>simp[jV] at h⊢;obtain⟨⟨⟨U,af⟩,ay⟩,be⟩:=h;exact⟨U,af,ay,be⟩
 |.aX i v r o,y,h=>by
  cases y<;>simp[jV] at h⊢;obtain⟨⟨⟨U,af⟩,ay⟩,be⟩:=h;exact⟨U,af,ay,be⟩
 |.map i,y,h=>by cases y<;>simp[jV] at h⊢;exact h
 |.fn f a,y,h=>by
  cases y<;>simp only[jV,i_,b_] at h;rw[ut h.2,oI h.1]
 |.agg a,y,h=>by
  cases y<;>simp only[jV,i_] at h;rw[ut h]
 |.tuple a,y,h=>by
  cases y<;>simp only[jV,i_] at h;rw[ut h]
theorem ut:∀{xs bG:List V},oA xs bG=true->xs=bG
 |[],[],_=>rfl
 |x::xs,y::bG,h=>by
  simp only[oA,b_] at h;rw[Oq h.1,ut h.2]
 |[],y::bG,h=>by simp[oA] at h
 |x::xs,[],h=>by simp[oA] at h
theorem Xc:∀{xs bG:List (List V)},AC xs bG=true->xs=bG
 |[],[],_=>rfl
 |x::xs,y::bG,h=>by
  simp only[AC,b_] at h;rw[ut h.1,Xc h.2]
 |[],y::bG,h=>by simp[AC] at h
 |x::xs,[],h=>by simp[AC] at h
end
def EZ(P:Program)(H:List (Nat×bt×aH×V)):List (Nat×(Mem->Prop)):=H.map fun e=>(e.1,gk P e.2.1 e.2.2.1 e.2.2.2)
theorem Q6:∀{H:List (Nat×bt×aH×V)}{j:Nat}{x:bt×aH×V}{M:Mem},Bb H j=some x->gk P x.1 x.2.1 x.2.2 M->nG (EZ P H) j M
 |[],j,x,M,h,_=>by simp[Bb] at h
 |(i,y)::H,j,x,M,h,ax=>by
  simp only[Bb] at h;simp only[EZ,hQ,nG];split at h
  . rename_i aj
    simp only[aV] at h;subst h;rw[aj];exact ax
  . rename_i aj
    rw[aj];exact Q6 (H:=H) h ax
theorem aBg(de:qA P cM){o:bt}{s:aH}{v:V}{M:Mem}(h:K4 cM o s v M=true):gk P o s v M:=by
 have pure:∀op,(match hL op s M with|some x=>jV x v|none=>false)=true->hL op s M=some v:=fun op h=>by
  split at h
  . rename_i x ab
    rw[Oq h] at ab;exact ab
  . cases h
 obtain⟨dst,op,bx,g⟩:=o;cases op
 case call f args=>
  simp only[K4,b_] at h;obtain⟨U,af⟩:=h;refine⟨?_,fun aj=>?_⟩
  . split at U
    . rename_i x cz ab
      have bb:cz=M:=by
       simp only[wT] at ab;cases hu:cS 0 (e9 s args) with
       |false=>simp[hu] at ab
       |true=>
        simp only[hu,cond_true] at ab;split at ab
        . obtain⟨_,e⟩:=fe ab
          simp only[dX] at e;exact e.2.symm
        . cases ab
      have ay:=Fi (q:=true) de ab (K:=fun y N=>y=x/\N=cz) ⟨rfl,rfl⟩;obtain⟨y,be,bv,_⟩:=ay;subst bv;rw[Oq U] at be;exact be
    . cases U
  . simp only at aj
    subst aj;cases v<;>simp[Um] at af;exact⟨_,rfl⟩
 all_goals exact pure _ h
theorem Q5(de:qA P cM){H:List (Nat×bt×aH×V)}{M:Mem}:∀{l:List Nat},Ba cM H l M=true->kE (EZ P H) l M
 |[],_=>trivial
 |j::l,h=>by
  simp only[Ba,b_] at h;obtain⟨U,af⟩:=h;refine⟨?_,Q5 de af⟩;split at U
  . rename_i o s v aC
    exact Q6 aC (aBg de U)
  . cases U
theorem K7(de:qA P cM):∀(os:List bt)(bO:List (Option (List Nat)))(n:Nat)(H:List (Nat×bt×aH×V))(s:aH)(M:Mem)(aM:aH)(ah:Mem),uV cM os bO n H s M=some (aM,ah)->∀K:aH->Mem->Prop,K aM ah->l8 P os bO n (EZ P H) s M K
 |o::os,none::bO,n,H,s,M,aM,ah,h,K,ao=>by
  unfold uV at h;split at h
  . rename_i s1 cz U
    exact K8 de U (K7 de os bO _ _ _ _ _ _ h K ao)
  . cases h
 |o::os,some l::bO,n,H,s,M,aM,ah,h,K,ao=>by
  unfold uV at h;split at h
  . rename_i s1 cz U
    cases ar:Ba cM H l cz with
    |true=>
     simp only[ar,cond_true] at h;exact K8 de U ⟨Q5 de ar,K7 de os bO _ _ _ _ _ _ h K ao⟩
    |false=>simp only[ar,cond_false,reduceCtorEq] at h
  . cases h
 |[],bO,n,H,s,M,aM,ah,h,K,ao=>by
  simp only[uV,aV,dX] at h;obtain⟨rfl,rfl⟩:=h;cases bO<;>exact ao
 |o::os,[],n,H,s,M,aM,ah,h,K,ao=>by
  simp only[uV,aV,dX] at h;obtain⟨rfl,rfl⟩:=h;exact ao
theorem aBn{body:aH->Mem->Option Out}{a:bc}{live:List Nat}{len:Nat}{Q:Exit->aH->Mem->Prop}(aj:∀s M e aM ah(cI:Exit->aH->Mem->Prop),body s M=some (e,aM,ah)->cI e aM ah->dv P a cI s M)
 :∀(k:Nat)(vs:List V)(M:Mem)(e:Exit)(aM:aH)(ah:Mem),uW body live len k vs M=some (e,aM,ah)->Q e aM ah->
  ∀(dy:Nat->List V->Mem->Prop),(∀k vs M,(∃e aM ah,uW body live len k vs M=some (e,aM,ah)/\Q e aM ah)->dy k vs M)->dv P a (nM dy k len live Q) (k_ live vs) M
 |0,vs,M,e,aM,ah,h,_,_,_=>by simp[uW] at h
 |k+1,vs,M,e,aM,ah,h,aG,dy,lv=>by
  unfold uW at h;split at h
  . rename_i s1 cz U
    refine aj _ _ _ _ _ _ U ?_;simp only[nM];cases ax:hK len (dt s1 live) cz with
    |true=>
     simp only[ax,cond_true] at h;exact .inr ⟨rfl,k,Nat.lt_succ_self k,lv _ _ _ ⟨_,_,_,h,aG⟩⟩
    |false=>
     simp only[ax,cond_false] at h;exact .inl ⟨k,Nat.lt_succ_self k,lv _ _ _ ⟨_,_,_,h,aG⟩⟩
  . rename_i cr
    refine aj _ _ _ _ _ _ h ?_;cases e with
    |normal=>exact absurd h (cr _ _)
    |_=>exact aG
theorem aBk{dD:aH->Mem->Option Out}{l:Nat}{live:List Nat}{k:Nat}{e:Exit}{s:aH}{M:Mem}(cr:∀l',e≠.goto l'){fm:Exit}{aM:aH}{ah:Mem}(h:oV dD l live k (some (e,s,M))=some (fm,aM,ah)):fm=e/\aM=s/\ah=M:=by
 cases k with
 |zero=>simp[oV] at h
 |succ k=>
  unfold oV at h;split at h
  . rename_i heq;simp at heq
  . rename_i heq
    simp only[aV,dX] at heq;exact absurd heq.1 (cr _)
  . rename_i heq
    simp only[aV,dX] at h;exact⟨h.1.symm,h.2.1.symm,h.2.2.symm⟩
theorem K5(de:qA P cM):∀(n:Nat)(c:bc)(s:aH)(M:Mem)(e:Exit)(aM:aH)(ah:Mem)(Q:Exit->aH->Mem->Prop),gn cM n c s M=some (e,aM,ah)->Q e aM ah->dv P c Q s M
 |0,c,s,M,e,aM,ah,Q,h,_=>by simp[gn] at h
 |n+1,c,s,M,e,aM,ah,Q,h,aG=>by
  have bq:=K5 de n;cases c with
  |skip=>simp only[gn,aV,dX] at h;obtain⟨rfl,rfl,rfl⟩:=h;exact aG
  |label=>simp only[gn,aV,dX] at h;obtain⟨rfl,rfl,rfl⟩:=h;exact aG
  |exit id=>simp only[gn,aV,dX] at h;obtain⟨rfl,rfl,rfl⟩:=h;exact aG
  |goto l=>simp only[gn,aV,dX] at h;obtain⟨rfl,rfl,rfl⟩:=h;exact aG
  |ret=>simp only[gn,aV,dX] at h;obtain⟨rfl,rfl,rfl⟩:=h;exact aG
  |region aF live=>
   simp only[gn] at h;split at h
   . rename_i s1 cz U
     simp only[aV,dX] at h;obtain⟨rfl,rfl,rfl⟩:=h;exact Bd de _ _ _ _ _ U _ aG
   . cases h
  |mixed aF dN live=>
   simp only[gn] at h;split at h
   . rename_i s1 cz U
     simp only[aV,dX] at h;obtain⟨rfl,rfl,rfl⟩:=h;exact Q8 de _ _ _ _ _ _ U _ aG
   . cases h
  |sd c z aF bJ live=>
   simp only[gn] at h;cases h
  |float aF bJ live=>
   simp only[gn] at h;split at h
   . rename_i s1 cz U
     simp only[aV,dX] at h;obtain⟨rfl,rfl,rfl⟩:=h;exact K7 de _ _ _ _ _ _ _ _ U _ aG
   . cases h
  |seq a b=>
   simp only[gn] at h;split at h
   . rename_i s1 cz U
     exact bq a _ _ _ _ _ _ U (bq b _ _ _ _ _ Q h aG)
   . rename_i cr
     refine bq a _ _ _ _ _ _ h ?_;cases e with
     |normal=>exact absurd h (cr _ _)
     |_=>exact aG
  |cond c a b=>
   simp only[gn] at h;simp only[dv];split at h
   . rename_i ar;rw[ar];exact bq a _ _ _ _ _ Q h aG
   . rename_i ar;rw[ar];exact bq b _ _ _ _ _ Q h aG
   . cases h
  |block id a=>
   simp only[gn] at h;simp only[dv];split at h
   . rename_i nA s1 cz U
     refine bq a _ _ _ _ _ _ U ?_;simp only[pI];cases bf:(nA==id) with
     |true=>
      simp only[bf,cond_true,aV,dX] at h⊢;obtain⟨rfl,rfl,rfl⟩:=h;exact aG
     |false=>
      simp only[bf,cond_false,aV,dX] at h⊢;obtain⟨rfl,rfl,rfl⟩:=h;exact aG
   . rename_i cr
     refine bq a _ _ _ _ _ _ h ?_;cases e with
     |exit nA=>exact absurd h (cr _ _ _)
     |_=>exact aG
  |loop live a=>
   simp only[gn] at h;refine⟨fun k vs cz=>∃e aM ah,uW (gn cM n a) live M.length k vs cz=some (e,aM,ah)/\Q e aM ah,n,⟨e,aM,ah,h,aG⟩,fun k vs cz ⟨a6,s1,yN,U,xz⟩=>?_⟩;exact aBn (fun s M e aM ah cI ce aGH=>bq a s M e aM ah cI ce aGH) k vs cz a6 s1 yN U xz _ (fun k vs M h=>h)
  |scope l live a dD=>
   simp only[gn] at h;have out:∀k(r:Out),(∃e aM ah,oV (gn cM n dD) l live k (some r)=some (e,aM,ah)/\Q e aM ah)->
    (∃s1 cz,r=(.goto l,s1,cz)/\∃dj,k=dj+1/\∃e aM ah,oV (gn cM n dD) l live dj (gn cM n dD (k_ live (dt s1 live)) cz)=some (e,aM,ah)/\Q e aM ah)∨((∀l',r.1≠.goto l')/\Q r.1 r.2.1 r.2.2):=by
    intro k r ⟨e,aM,ah,h,aG⟩;obtain⟨yc,rs,VJ⟩:=r;by_cases aB:∃l',yc=.goto l'
    . obtain⟨l',rfl⟩:=aB
      cases k with
      |zero=>simp[oV] at h
      |succ k=>
       simp only[oV] at h;obtain⟨ag,h⟩:=qW h;have ag:l'=l:=by simpa using ag
       subst ag;exact .inl ⟨rs,VJ,rfl,k,rfl,e,aM,ah,h,aG⟩
    . have cr:∀l',yc≠.goto l':=fun l' he=>aB ⟨l',he⟩
      obtain⟨rfl,rfl,rfl⟩:=aBk cr h;exact .inr ⟨cr,aG⟩
   have part:∀(k:Nat)(c:bc)(s:aH)(M:Mem)(b3:List V->Mem->Prop),(∃e aM ah,oV (gn cM n dD) l live k (gn cM n c s M)=some (e,aM,ah)/\Q e aM ah)->
    (∀vs cz dj,k=dj+1->(∃e aM ah,oV (gn cM n dD) l live dj (gn cM n dD (k_ live vs) cz)=some (e,aM,ah)/\Q e aM ah)->b3 vs cz)->dv P c (xU b3 l live Q) s M:=by
    intro k c s M b3 ⟨e,aM,ah,h,aG⟩ w_;cases al:gn cM n c s M with
    |none=>
     rw[al] at h;cases k<;>simp[oV] at h
    |some r=>
     rw[al] at h;refine bq c s M r.1 r.2.1 r.2.2 _ al ?_;rcases out k r ⟨e,aM,ah,h,aG⟩ with⟨s1,cz,rfl,dj,iV,ce⟩|⟨cr,rh⟩
     . exact⟨rfl,w_ _ _ dj iV ce⟩
     . obtain⟨yc,rs,VJ⟩:=r
       cases yc with
       |goto l'=>exact absurd rfl (cr l')
       |_=>exact rh
   refine⟨fun k vs cz=>∃e aM ah,oV (gn cM n dD) l live k (gn cM n dD (k_ live vs) cz)=some (e,aM,ah)/\Q e aM ah,?_,fun k vs cz ce=>?_⟩
   . exact part n a s M _ ⟨e,aM,ah,h,aG⟩ (fun vs cz dj _ ce=>⟨dj,ce⟩)
   . exact part k dD _ cz _ ce (fun vs yN dj iV Mj=>⟨dj,by omega,Mj⟩)
def pH(P:Program)(jE:AM):Prop:=∀f fn k,jE f=some (fn,k)->∃h,bC P h f=some fn
theorem aBi{fn:bu}{base:Nat}{s:aH}{ah:Mem}{v:V}{N:Mem}(h:wU fn true base s ah=some (v,N)):pu s ah fn.results=some v/\N=ah:=by
 unfold wU at h;split at h
 . rename_i ae aq
   simp only[aV,dX] at h;obtain⟨rfl,rfl⟩:=h;exact⟨aq,rfl⟩
 . cases h
theorem aBj{fn:bu}{base:Nat}{s:aH}{ah:Mem}{v:V}{N:Mem}(h:wU fn false base s ah=some (v,N)):Jv base (fun x K=>x=v/\K=N) (pu s ah fn.results) ah:=by
 unfold wU at h;split at h
 . rename_i ae aq
   rw[aq];simp only at h;split at h
   . rename_i nc aC
     obtain⟨aj,e⟩:=fe h;simp only[dX] at e;obtain⟨rfl,rfl⟩:=e;show lL (fu ah base 20 ae) _;rw[aC];exact⟨aj,rfl,rfl⟩
   . cases h
 . cases h
def l6:List (Nat×bu×Bool)->AM
 |[],_=>none
 |(n,fn,k)::r,f=>bif n==f then some (fn,k) else l6 r f
theorem JM:pH P (l6 []):=fun _ _ _ h=>by simp[l6] at h
theorem dM{n:Nat}{fn:bu}{k:Bool}{r:List (Nat×bu×Bool)}{h:Hints}(aC:bC P h n=some fn)(al:pH P (l6 r)):pH P (l6 ((n,fn,k)::r)):=fun f aCa dj e=>by
 simp only[l6] at e;cases aj:(n==f) with
 |true=>
  simp only[aj,cond_true,aV,dX] at e;have:n=f:=by simpa using aj
  subst this;rw[<-e.1];exact⟨h,aC⟩
 |false=>
  simp only[aj,cond_false] at e;exact al f aCa dj e
end
end Go.aQ
namespace Go.aQ
end Go.aQ
namespace Go.aQ
def yv(dy:Nat->List V->Mem->Prop)(n:Nat)(m:Nat)(vs:List V)(M:Mem):Prop:=∃i,m=n -i/\i<=n/\dy i vs M
theorem c6{dy:Nat->List V->Mem->Prop}{n i len:Nat}{live:List Nat}{Q:Exit->aH->Mem->Prop}{s:aH}{M:Mem}(h:i<n)(lv:dy (i+1) (dt s live) M):
 nM (yv dy n) (n -i) len live Q .normal s M:=yf (n -(i+1)) (by omega) ⟨i+1,rfl,h,lv⟩
theorem dC{dy:Nat->List V->Mem->Prop}{n i len:Nat}{live:List Nat}{Q:Exit->aH->Mem->Prop}{s:aH}{M:Mem}(h:i<n)(ax:hK len (dt s live) M=true)(lv:dy (i+1) (dt s live) (M.take len)):
 nM (yv dy n) (n -i) len live Q .normal s M:=JB (n -(i+1)) (by omega) ax ⟨i+1,rfl,h,lv⟩
theorem gg{P:Program}{live:List Nat}{a:bc}{Q:Exit->aH->Mem->Prop}{s:aH}{M:Mem}(n:Nat)(dy:Nat->List V->Mem->Prop)(a4:dy 0 (dt s live) M)
 (step:∀i vs cz,i<n->decide ((i:Int)<(n:Int))=true->dy i vs cz->dv P a (nM (yv dy n) (n -i) M.length live Q) (k_ live vs) cz)
 (last:∀vs cz,dy n vs cz->dv P a (nM (yv dy n) 0 M.length live Q) (k_ live vs) cz):dv P (.loop live a) Q s M:=by
 refine oC (yv dy n) n ⟨0,rfl,fG _,a4⟩ ?_;rintro m vs cz ⟨i,rfl,hi,h⟩;rcases mG i n with bw|o5
 . exact step i vs cz bw (decide_eq_true (by omega)) h
 . have e:i=n:=by omega
   subst e;have:=last vs cz h;rwa [mH]
theorem ek{α:Type}{P:Program}{live:List Nat}{a:bc}{Q:Exit->aH->Mem->Prop}{s:aH}{M:Mem}(l:List α)(dy:Nat->List V->Mem->Prop)(a4:dy 0 (dt s live) M)
 (step:∀i x vs cz,l[i]? =some x->i<l.length->decide ((i:Int)<(l.length:Int))=true->dy i vs cz->dv P a (nM (yv dy l.length) (l.length -i) M.length live Q) (k_ live vs) cz)
 (last:∀vs cz,dy l.length vs cz->dv P a (nM (yv dy l.length) 0 M.length live Q) (k_ live vs) cz):dv P (.loop live a) Q s M:=
 gg l.length dy a4 (fun i vs cz hi aw h=>step i l[i] vs cz (gd hi) hi aw h) last
theorem dg(a:Int):decide (a<a)=false:=by simp
theorem azO{P:Program}{f:Nat}{args:List V}{v:V}{M:Mem}{K:V->Mem->Prop}(h:bQ P f args (fun x=>x=v))(hu:cS 0 args=true)(ao:K v M):cj P f args M K:=
 bQ.call h hu (fun x ab _=>by rw[ab];exact ao)
def el(n:Int):Prop:=-9223372036854775808<=n/\n<=9223372036854775807
theorem aHr{n:Int}(h:(Lit.int .i64 n).wf=true):el n:=by
 have e:IntKind.i64.min=-9223372036854775808:=by decide
 have fm:IntKind.i64.max=9223372036854775807:=by decide
 simp only[Lit.wf,e,fm,b_,decide_eq_true_eq] at h;exact h
theorem tw{vs:List V}(h:mM [] vs):vs=[]:=List.length_eq_zero_iff.1 h.1
theorem eM{e8:gt}{iN:List gt}{vs:List V}(h:mM (e8::iN) vs):∃x bG,vs=x::bG/\l_ e8 x/\mM iN bG:=by
 obtain⟨ag,h⟩:=h;cases vs with
 |nil=>simp at ag
 |cons x bG=>exact⟨x,bG,rfl,h 0 x e8 rfl rfl,by simpa using ag,fun j y c a b=>h (j+1) y c (by simpa using a) (by simpa using b)⟩
theorem pT{v:V}(h:l_ .bool v):∃b,v=.bool b:=by cases h;exact⟨_,rfl⟩
theorem hE{v:V}(h:l_ (.int .i64) v):∃n,v=.int .i64 n/\el n:=by
 cases h with
 |int k n hw=>exact⟨n,rfl,aHr hw⟩
theorem G0{v:V}(h:l_ .str v):∃s,v=.str s/\s.length<=maxLen:=by cases h;exact⟨_,rfl,‹_›⟩
theorem xc{α:Type}{row:α->List V}{wf:α->Prop}{iN:List gt}(al:∀vs,mM iN vs->∃t,vs=row t/\wf t){v:V}(h:l_ (.slice iN) v):
 ∃(l:List α)(c:c3),v=.slice (l.map row) c/\(∀t∈l,wf t)/\l.length<=maxLen/\(c=.nil/\l=[]∨c=.any):=by
 cases h with
 |slice _ rows c ar ag a7 h=>
  have key:∀rows:List (List V),(∀r∈rows,mM iN r)->∃l:List α,rows=l.map row/\∀t∈l,wf t:=by
   intro rows;induction rows with
   |nil=>exact fun _=>⟨[],rfl,by simp⟩
   |cons r rows bq=>
    intro ce;obtain⟨t,rfl,aT⟩:=al r (ce r (by simp));obtain⟨l,rfl,ag⟩:=bq fun gA gG=>ce gA (by simp[gG]);exact⟨t::l,rfl,by simpa using⟨aT,ag⟩⟩
  obtain⟨l,rfl,aHe⟩:=key rows fun r jO=>by
   obtain⟨i,hi⟩:=ij jO;exact⟨a7 i r hi,fun j x e8 a b=>h i r j x e8 hi a b⟩
  refine⟨l,c,rfl,aHe,by simpa using ag,?_⟩;rcases ar with⟨U,af⟩|U
  . exact .inl ⟨U,by simpa using af⟩
  . exact .inr U
theorem aEr{xs:List V}(h:uE [] xs):xs=[]:=h
theorem Td{p:rZ}{cP:List rZ}{xs:List V}(h:uE (p::cP) xs):∃x bG,xs=x::bG/\Ka p x/\uE cP bG:=h
def sc(e:Nat->Int)(n:Nat):Int×Int:=
 match(c1 n).find? (fun k=>decide (e k≠0)) with
 |some k=>((k:Int),e k)
 |none=>(0,0)
theorem aBR{e:Nat->Int}{n i:Nat}(hi:i<n)(h:∀k,k<i->e k=0)(he:e i≠0):sc e n=((i:Int),e i):=by
 have:(c1 n).find? (fun k=>decide (e k≠0))=some i:=by
  rw[List.find?_range_eq_some];exact⟨by simpa using he,by simpa using hi,fun j ap=>by simp[h j ap]⟩
 simp only[sc,this]
theorem Ro{e:Nat->Int}{n:Nat}(h:∀k,k<n->e k=0):sc e n=(0,0):=by
 have:(c1 n).find? (fun k=>decide (e k≠0))=none:=by
  rw[List.find?_eq_none];intro k ao;simp[h k (jY.1 ao)]
 simp only[sc,this]
end Go.aQ
namespace Go.aQ
class wo where p:Prop
class Ya where k:Bool->Prop
class Yd where k:V->Prop
class pD where k:V->Mem->Prop
def qy(b:Bool)[A:wo][B:wo]:Prop:=jZ b A.p B.p
def it(o:Option V)[K:Yd]:Prop:=lL o K.k
def hT(o:Option V)[K:Ya]:Prop:=s3 o K.k
def ki(o:Option (V×Mem))[K:pD]:Prop:=s4 o K.k
def qz(P:Program)(f:Nat)(args:List V)(M:Mem)[K:pD]:Prop:=cj P f args M K.k
def yG(P:Program)(f:Nat)(args:List V)(M:Mem)[K:pD]:Prop:=oD P true f args M K.k
def yH(P:Program)(q:Bool)(f:V)(args:List V)(M:Mem)[K:pD]:Prop:=mE P q f args M K.k
def Kh(neg:Bool)(x y:V)(M:Mem)[K:pD]:Prop:=sV neg x y M K.k
def OZ(x:V)(M:Mem)[K:pD]:Prop:=rS x M K.k
def OL(P:Program)(f:Nat)(args:List V)(M:Mem)(n:Nat)(z:List V)[K:pD]:Prop:=J3 P f args M n (.box z) K.k
theorem XG(A:Prop)(B:wo):@qy true ⟨A⟩ B=A:=rfl
theorem XE(A:wo)(B:Prop):@qy false A ⟨B⟩=B:=rfl
theorem XF(b:Bool)(A B:wo):@qy (!b) A B=@qy b B A:=by cases b<;>rfl
theorem Jn(b:Bool)(A B:Prop):@qy b ⟨A⟩ ⟨B⟩=jZ b A B:=rfl
theorem ZN(v:V)(K:V->Prop):@it (some v) ⟨K⟩=K v:=rfl
theorem ZL(b:Bool)(K:Bool->Prop):@hT (some (.bool b)) ⟨K⟩=K b:=rfl
theorem ZM(v:V)(M:Mem)(K:V->Mem->Prop):@ki (some (v,M)) ⟨K⟩=K v M:=rfl
theorem aAq(t:Bool)(A B:Prop):A3 (.bool t) A B=@qy t ⟨A⟩ ⟨B⟩:=rfl
theorem XP(P:Program)(f:Nat)(da args:List V)(M:Mem)(K:pD):@yH P false (.dH f da) args M K=@qz P f (args++da) M K:=rfl
theorem XO(P:Program)(f:Nat)(da args:List V)(M:Mem)(K:pD):@yH P false (.fn f da) args M K=@qz P f (args++da) M K:=rfl
theorem XN(P:Program)(f:Nat)(da args:List V)(M:Mem)(K:pD):@yH P true (.dH f da) args M K=@yG P f (args++da) M K:=rfl
theorem XM(P:Program)(f:Nat)(da args:List V)(M:Mem)(K:pD):@yH P true (.fn f da) args M K=@yG P f (args++da) M K:=rfl
theorem a5{p:Prop}[Decidable p]{A B:Prop}(U:p->A)(af:¬p->B):@qy (decide p) ⟨A⟩ ⟨B⟩:=AJ U af
theorem cp{b:Bool}{A B:Prop}(U:b=true->A)(af:b=false->B):@qy b ⟨A⟩ ⟨B⟩:=XJ U af
theorem ew{P:Program}{f:Nat}{args:List V}{M:Mem}{R K:V->Mem->Prop}(h:cj P f args M R)(ao:∀v ah,R v ah->K v ah):@qz P f args M ⟨K⟩:=cj.mono h ao
theorem b0{P:Program}{f:Nat}{args:List V}{v:V}{M:Mem}{K:V->Mem->Prop}(h:bQ P f args (fun x=>x=v))(ao:K v M)(hu:cS 0 args=true:=by rfl):@qz P f args M ⟨K⟩:=azO h hu ao
theorem fI{P:Program}{f:Nat}{args:List V}{R:V->Prop}{M:Mem}{K:V->Mem->Prop}(h:bQ P f args R)(ao:∀v,R v->K v M)(hu:cS 0 args=true:=by rfl):@qz P f args M ⟨K⟩:=bQ.call h hu (fun v aq _=>ao v aq)
theorem me{P:Program}{f:Nat}{args:List V}{v:V}{M:Mem}{K:V->Mem->Prop}(h:cj P f args M (fun x ah=>x=v/\ah=M))(ao:K v M):@qz P f args M ⟨K⟩:=
 cj.mono h fun x ah ⟨U,af⟩=>by rw[U,af];exact ao
theorem bV{P:Program}{f:Nat}{args:List V}{v:V}{M:Mem}{K:V->Mem->Prop}(h:bQ P f args (fun x=>x=v))(ao:K v M)(hu:cS 0 args=true:=by rfl):@yG P f args M ⟨K⟩:=
 ⟨v,bQ.call h hu (fun x ab _=>⟨ab,rfl⟩),ao⟩
theorem azN{P:Program}{f:Nat}{args:List V}{v:V}{M:Mem}{K:V->Mem->Prop}(h:cj P f args M (fun x ah=>x=v/\ah=M))(ao:K v M):@yG P f args M ⟨K⟩:=⟨v,h,ao⟩
theorem E4{P:Program}{f:Nat}{args:List V}{v:V}{M:Mem}{n:Nat}{z:List V}{K:V->Mem->Prop}(h:bQ P f args (fun x=>x=v))(aK:M[n]? =some .dead)(ao:K v M)(hu:cS 0 args=true:=by rfl):@OL P f args M n z ⟨K⟩:=
 ⟨v,M,aK,bQ.call h hu (fun x ab _=>⟨ab,rfl⟩),bQ.call h hu (fun x ab _=>⟨ab,rfl⟩),ao⟩
theorem ZS(neg:Bool)(i o j p:Nat)(M:Mem)(K:pD):@Kh neg (.ptr i o) (.ptr j p) M K=ki (yb neg (.ptr i o) (.ptr j p) M):=rfl
theorem aJZ{neg:Bool}{cs bI:List V}{M:Mem}{K:V->Mem->Prop}(h:∀b:Bool,K (.bool b) M):@Kh neg (.cN cs) (.cN bI) M ⟨K⟩:=⟨h true,h false⟩
theorem aJB{id mid:Nat}{seen:List Nat}{es:List (V×V)}{M:Mem}{K:V->Mem->Prop}(U:M[id]? =some (.iter mid es.length seen))(af:M[mid]? =some (.map es))(ay:(∀i,i<es.length->i∈seen)->K (.tuple [.bool false]) M)
 (be:∀i cx,es[i]? =some cx->i∉seen->K (.tuple [.bool true,cx.1,cx.2]) (M.set id (.iter mid es.length (seen++[i])))):@OZ (.ptr id 0) M ⟨K⟩:=by
 show rS _ _ _;simp only[rS,U,af];exact⟨trivial,ay,be⟩
end Go.aQ
namespace Go.aQ
theorem aHN(b3:List V->Mem->Prop)(l:Nat)(live:List Nat)(Q:Exit->aH->Mem->Prop)(s:aH)(M:Mem):xU b3 l live Q .normal s M=Q .normal s M:=rfl
theorem aHO(b3:List V->Mem->Prop)(l:Nat)(live:List Nat)(Q:Exit->aH->Mem->Prop)(s:aH)(M:Mem):xU b3 l live Q .ret s M=Q .ret s M:=rfl
theorem aHL(b3:List V->Mem->Prop)(l:Nat)(live:List Nat)(Q:Exit->aH->Mem->Prop)(id:Nat)(s:aH)(M:Mem):xU b3 l live Q (.exit id) s M=Q (.exit id) s M:=rfl
theorem aHM(b3:List V->Mem->Prop)(l:Nat)(live:List Nat)(Q:Exit->aH->Mem->Prop)(l':Nat)(s:aH)(M:Mem):xU b3 l live Q (.goto l') s M=(l'=l/\b3 (dt s live) M):=rfl
theorem PH(sz bytes id ver len:Nat)(xr:List (List V))(c:c3)(M:Mem):d0 false sz bytes (.aX id ver 0 len) (.slice xr c) M=(bif fq sz xr then(match M[id]? with
 |some (.arr z rows v fz)=>
  bif z==sz&&v==ver&&len==rows.length&&decide ((rows.length+xr.length)*(2*bytes)<=2^48) then
   some (.aX id (ver+1) 0 (len+xr.length),M.set id (.arr sz (rows++xr) (ver+1) fz))
  else bif z==sz&&v==ver&&decide (len<=rows.length)&&decide (fz<=len)&&decide ((len+xr.length)*(2*bytes)<=2^48) then
   some (.aX id (ver+1) 0 (len+xr.length),M.set id (.arr sz (rows.take len++xr) (ver+1) fz))
  else none
 |some (.vec cells v)=>
  match xr with
  |[[x]]=>
   bif sz==1&&v==ver&&len==cells.length&&decide ((cells.length+1)*(2*bytes)<=2^48) then
    some (.aX id (ver+1) 0 (len+1),M.set id (.vec (cells++[x]) (ver+1)))
   else none
  |_=>none
 |_=>none) else none):=by
 simp only[d0,eJ];cases fq sz xr<;>rfl
theorem s6(sz bytes:Nat)(s:List (List V))(c c0:c3)(xr:List (List V))(M:Mem):d0 true sz bytes (.slice s c) (.slice xr c0) M=(bif fq sz xr then bif fq sz s&&(decide (c=.nil)||decide (c=.full))&&decide ((s.length+xr.length)*(2*bytes)<=2^48) then some (.slice (s++xr) .cv,M) else none else none):=by
 simp only[d0,eJ];cases fq sz xr<;>rfl
theorem Tk(n:Nat)(r:List V)(rs:List (List V)):fq n (r::rs)=(r.length==n):=rfl
theorem aEW(n:Nat):fq n []=true:=rfl
theorem u9{α:Type}{f:α->List V}{n:Nat}(h:∀x,(f x).length=n)(l:List α):fq n (l.map f)=true:=by
 cases l with
 |nil=>rfl
 |cons x l=>simp[fq,h]
theorem aJz(sz:Nat)(M:Mem)(h:0<sz):Ah sz M=some (.aX M.length 0 0 0,M++[.arr sz [] 0 0]):=by
 cases sz with
 |zero=>cases h
 |succ n=>rfl
theorem aJA(M:Mem):Ah 0 M=some (.aX M.length 0 0 0,M++[.vec [] 0]):=rfl
theorem aMW(cells:List V)(row:Nat):En 1 false 0 cells row=cells[row]? :=rfl
theorem aMZ(x:V)(cells:List V)(row:Nat):JY 0 [x] cells row=bif decide (row<cells.length) then some (cells.set row x) else none:=rfl
theorem abL(id ver len:Nat)(M:Mem):r6 (.aX id ver 0 len) M=(match M[id]? with
 |some (.arr z rows v _)=>bif z==1&&v==ver&&decide (len<=rows.length) then(yW (rows.take len)).map .str else none
 |_=>none):=by
 simp only[r6,eJ,ev,l9];cases M[id]? with
 |none=>rfl
 |some B=>
  cases B with
  |arr z rows v fz=>cases h:(z==1&&v==ver&&decide (len<=rows.length))<;>simp[h]
  |_=>rfl
theorem aAz{a b:Nat}(h:a<=b):decide (a<=b)=true:=decide_eq_true h
theorem aJb(k:IntKind)(a b:Int):sA true (.int k a) (.int k b)=some (.int k (max a b)):=by
 simp only[sA,decide_true,cond_true,Int.max_def]
 congr 2
 split<;>split<;>omega
theorem aJc(k:IntKind)(a b:Int):sA false (.int k a) (.int k b)=some (.int k (min a b)):=by
 simp only[sA,decide_true,cond_true,Int.min_def]
 congr 2
 split<;>split<;>omega
theorem aJi(f:Nat)(da:List V):x6 f da=bif hy da then .dH f da else .fn f da:=rfl
theorem abI(z:List V)(cP:List (Nat×Nat×V)):wE z cP=(match oX z cP with|some cs=>some (.agg cs)|none=>none):=rfl
theorem abF(z:List V)(sz len:Nat)(cP:List (Nat×Nat×V)):wD z sz len cP=(match oX z cP with|some cs=>bif hy cs then some (.slice (r9 sz len cs) .full) else none|none=>none):=rfl
theorem Wi(sz:Nat)(rows:List (List V))(c:c3)(k dj:IntKind)(l h:Int)(M:Mem)(U:0<=l)(af:l<=h)(ay:h<=(rows.length:Int))(a7:fq sz rows=true):
 g7 sz (.slice rows c) (some (.int k l)) (some (.int dj h)) none M=some (.slice ((rows.drop l.toNat).take (h.toNat -l.toNat)) (nm c h.toNat rows.length rows.length false)):=by
 have bU:decide (0<=l)=true:=decide_eq_true U;have b4:decide (0<=h)=true:=decide_eq_true (by omega);have cG:decide (l.toNat<=h.toNat)=true:=decide_eq_true (by omega);have dl:decide (h.toNat<=rows.length)=true:=decide_eq_true (by omega);simp only[g7,ix,bU,b4,cG,dl,cond_true,a7,eR,decide_true,cF,Option.isSome_none]
theorem Wh(sz:Nat)(rows:List (List V))(c:c3)(k:IntKind)(l:Int)(M:Mem)(U:0<=l)(af:l<=(rows.length:Int))(a7:fq sz rows=true):
 g7 sz (.slice rows c) (some (.int k l)) none none M=some (.slice (rows.drop l.toNat) (nm c rows.length rows.length rows.length false)):=by
 have bU:decide (0<=l)=true:=decide_eq_true U;have cG:decide (l.toNat<=rows.length)=true:=decide_eq_true (by omega);simp only[g7,ix,bU,cG,cond_true,a7,eR,decide_true,cF,Option.isSome_none];rw[g1 (by simp)]
theorem aLV(sz:Nat)(rows:List (List V))(c:c3)(dj:IntKind)(h:Int)(M:Mem)(af:0<=h)(ay:h<=(rows.length:Int))(a7:fq sz rows=true):
 g7 sz (.slice rows c) none (some (.int dj h)) none M=some (.slice (rows.take h.toNat) (nm c h.toNat rows.length rows.length false)):=by
 have b4:decide (0<=h)=true:=decide_eq_true (by omega);have dl:decide (h.toNat<=rows.length)=true:=decide_eq_true (by omega);simp only[g7,ix,b4,dl,cond_true,a7,eR,decide_true,cF,Option.isSome_none,fG,Nat.sub_zero,l9]
theorem aIW(M:Mem):x2 none M=some (.map M.length,M++[.map []]):=rfl
theorem aIY(k:IntKind)(n:Int)(M:Mem):x2 (some (.int k n)) M=some (.map M.length,M++[.map []]):=rfl
def nF(c:fl)(z:V)(ok:Bool)(key:V)(es:List (V×V)):Option V:=oh c [z] false ok (.map 0) key [.map es]
def nR(c:fl)(key x:V)(es:List (V×V)):Option (List (V×V)):=bif kw c key&&nD c key es&&x.iA then some (oi c key x es) else none
theorem Nb(c:fl)(z:V)(ok:Bool)(id:Nat)(key:V)(M:Mem):oh c [z] false ok (.map id) key M=(match M[id]? with|some (.map es)=>nF c z ok key es|_=>none):=by
 simp only[nF,oh,m2,ja];cases h:M[id]? with
 |none=>cases kw c key<;>rfl
 |some B=>cases B<;>cases kw c key<;>rfl
theorem aMN(c:fl)(id:Nat)(key x:V)(M:Mem):Ab c (.map id) key x M=(match M[id]? with|some (.map es)=>(match nR c key x es with|some sa=>some (.undef,M.set id (.map sa))|none=>none)|_=>none):=by
 simp only[Ab,Nf,nR];cases h:M[id]? with
 |none=>rfl
 |some B=>
  cases B with
  |map es=>simp only;cases kw c key&&nD c key es&&x.iA<;>rfl
  |box _=>rfl
  |arr _ _ _ _=>rfl
  |vec _ _=>rfl
  |iter _ _ _=>rfl
  |dead=>rfl
theorem aba(cu:List fx)(xs bG:List V):dB .eql (.cells cu) (.agg xs) (.agg bG)=(gw cu xs bG).map .bool:=rfl
theorem abb(cu:List fx)(xs bG:List V):dB .neq (.cells cu) (.agg xs) (.agg bG)=(gw cu xs bG).map fun b=>.bool !b:=rfl
theorem azW(k:IntKind)(a b:Int):hA .int (.int k a) (.int k b)=some (decide (a=b)):=by simp[hA]
theorem azV(a b:Bool):hA .bool (.bool a) (.bool b)=some (decide (a=b)):=rfl
theorem azX(a b:List UInt8):hA .str (.str a) (.str b)=some (decide (a=b)):=rfl
theorem az3(xs bG:List V):gw [] xs bG=some true:=by cases xs<;>rfl
theorem az2(c:fx)(cs:List fx)(x y:V)(xs bG:List V):gw (c::cs) (x::xs) (y::bG)=(match hA c x y,gw cs xs bG with|some b,some d=>some (b&&d)|_,_=>none):=rfl
theorem JO{α β:Type}(f:α->β)(l:List α):(l.map f).take l.length=l.map f:=g1 (by simp)
attribute [go_sem↓] aNp Xk aNv aNs aNu aNq aNr aNm aLA aLB aLy aLz abx aby abv abw
 aLa aK9 aK_ aA7 aA8 aHN aHO aHL aHM Xo hq
attribute [go_sem] yb ZS abc abp abu abd aAq Vz aHR pu ye Ee ZO ZN ZL ZM XG XE XF XK XH XI
 XP XO XN XM rK aY k_ dt
 cond_true cond_false ev iJ cF decide_true decide_false
 aa_ abt abm abg abn abl abk abi abh abq abr abe abf aMI aMH aJ9 aJ7 aHE Ul aHz aHF aJp aJn aJo aJm
 aIA aIy aIz aIu aIt UF JH JG aIi aIh aIc aBy QB aBM ER A0
 dz gZ eD gY ja List.getElem?_cons_succ l9 List.drop_succ_cons List.take_succ_cons List.take_zero List.nil_append List.cons_append List.set_cons_zero List.set_cons_succ
 V.cells? gU nk V.iA Bool.and_true eR Bool.true_and mI Option.map_none lI toNat_sub1 toNat_add1 toNat_lit0 qv
 fu ke V.under cS cL a2.under V.kd hy true_and and_true V.bool.injEq V.int.injEq V.str.injEq
 PH s6 Tk aEW aJz aJA aMW aMZ abL aAz aJb aJc aJi abI abF oX r9 aba abb azW azV azX az3 az2 aIW aIY Nb aMN JO beq_self_eq_true Bool.not_true Bool.not_false Bool.false_and Bool.and_false dT
end Go.aQ
namespace Go.aQ
def DN:List (Nat×List V×V)->Nat->List V->Option V
 |[],_,_=>none
 |(g,xs,v)::r,f,args=>bif ep g f&&oA xs args then some v else DN r f args
def D6:List (Nat×Nat)->Nat->Nat->Bool
 |[],_,_=>false
 |(a,b)::r,g,f=>(ep a g&&ep b f)||D6 r g f
def qY(ms:List (Nat×List V×V))(pops:List (Nat×Nat))(jE:AM):Nat->Nat->oJ
 |0,_,_,_,_=>none
 |n+1,g,f,args,M=>
  match DN ms f args with
  |some v=>some (v,M)
  |none=>
   match jE f with
   |some (fn,fJ)=>
    bif decide (args.length<=fn.ntmps) then
     match gn (qY ms pops jE n f) n fn.body (rK args 0) M with
     |some (.normal,s,ah)=>wU fn (fJ&&!D6 pops g f) M.length s ah
     |some (.ret,s,ah)=>wU fn (fJ&&!D6 pops g f) M.length s ah
     |_=>none
    else none
   |none=>none
variable{P:Program}
def AO(P:Program)(ms:List (Nat×List V×V)):Prop:=∀f xs v,(f,xs,v)∈ms->cS 0 xs=true/\bQ P f xs (fun x=>x=v)
theorem Ut:∀{ms:List (Nat×List V×V)}{f:Nat}{args:List V}{v:V},DN ms f args=some v->(f,args,v)∈ms
 |[],f,args,v,h=>by simp[DN] at h
 |(g,xs,y)::r,f,args,v,h=>by
  simp only[DN] at h;cases aj:(ep g f&&oA xs args) with
  |true=>
   rw[aj] at h;simp only[cond_true,aV] at h;simp only[b_] at aj;rw[<-oI aj.1,<-ut aj.2,<-h];exact List.mem_cons_self
  |false=>
   rw[aj] at h;exact oG _ (Ut (by simpa using h))
theorem Q7{ms:List (Nat×List V×V)}(rg:AO P ms){pops:List (Nat×Nat)}{jE:AM}(Hq:pH P jE):∀n g,qA P (qY ms pops jE n g)
 |0,g,f,args,M,v,ah,h=>by simp[qY] at h
 |n+1,g,f,args,M,v,ah,h=>by
  have bq:=Q7 (pops:=pops) rg Hq n f;unfold qY at h;split at h
  . rename_i ae ao
    simp only[aV,dX] at h;obtain⟨rfl,rfl⟩:=h;obtain⟨U,af⟩:=rg _ _ _ (Ut ao);exact bQ.call af U fun x ab _=>⟨ab,rfl⟩
  split at h
  . rename_i fn fJ aT
    obtain⟨ag,h⟩:=qW h;have ag:args.length<=fn.ntmps:=by simpa using ag
    obtain⟨ce,aC⟩:=Hq f fn fJ aT;have fin:∀(e:Exit)(s:aH)(cz:Mem),(e=.normal∨e=.ret)->gn (qY ms pops jE n f) n fn.body (rK args 0) M=some (e,s,cz)->wU fn (fJ&&!D6 pops g f) M.length s cz=some (v,ah)->cj P f args M (fun x N=>x=v/\N=ah):=by
     intro e s cz he ar hh;cases lT:(fJ&&!D6 pops g f) with
     |true=>
      rw[lT] at hh;obtain⟨U,rfl⟩:=aBi hh;refine hx aC ag ?_;refine K5 bq n _ _ _ _ _ _ _ ar ?_;have lU:rq (fun x N=>x=v/\N=ah) (pu s ah fn.results) ah:=by rw[U];exact⟨rfl,rfl⟩
      rcases he with rfl|rfl<;>exact lU
     |false=>
      rw[lT] at hh;refine bZ aC ag ?_;refine K5 bq n _ _ _ _ _ _ _ ar ?_;rcases he with rfl|rfl<;>exact aBj hh
    split at h
    . rename_i s cz ar;exact fin _ _ _ (.inl rfl) ar h
    . rename_i s cz ar;exact fin _ _ _ (.inr rfl) ar h
    . cases h
  . cases h
theorem aJX{ms:List (Nat×List V×V)}(rg:AO P ms){pops:List (Nat×Nat)}{jE:AM}(Hq:pH P jE)(n:Nat){f:Nat}{args:List V}{v:V}(h:qY ms pops jE n 0 f args []=some (v,[]))(hu:v.under 0=true):bQ P f args (fun x=>x=v):=
 cj.mono (Q7 rg Hq n 0 _ _ _ _ _ h) fun x N ⟨a6,ba⟩=>⟨a6,ba,by rw[a6];exact hu⟩
end Go.aQ
