/- A part of the proof of TopBoard: the abstract machine, the code that the statement reaches, the contracts of its functions. Part 1. The text is made short by a program. -/
import Derived.Test.YtbndjigedmpplaaGreatB0
set_option linter.unusedSimpArgs false
set_option linter.unusedVariables false
set_option linter.unusedSectionVars false
set_option maxHeartbeats 1000000
set_option maxRecDepth 10000
open Array renaming getD_eq_getD_getElem?->iq,getElem?_eq_some_iff->lp
open Bool renaming and_eq_true->cc,and_self->eQ,false_and->oS,false_eq_true->jh,not_eq_true'->lV
open Int renaming toNat_natCast->kU
open List renaming append_nil->fA,drop_eq_getElem_cons->qU,drop_zero->lW,ext_getElem?->oT,getD->kV,getElem?_append_left->gp,getElem?_append_right->j_,getElem?_cons_zero->ji,getElem?_drop->kW,getElem?_eq_getElem->gg,getElem?_eq_none->lX,getElem?_eq_some_iff->bo,getElem?_map->gX,getElem?_of_mem->ir,getElem?_set_ne->dv,getElem?_set_self->eB,getElem?_take_of_lt->hA,length_append->dz,length_cons->dC,length_map->eu,length_nil->gY,length_set->eR,length_take->iS,map_cons->hY,mem_append->g9,mem_cons->jt,mem_cons_of_mem->n3,mem_cons_self->pV,mem_range->ka,range->c5,take_of_length_le->g_
open Nat renaming add_assoc->kX,add_mul->iv,add_zero->iT,beq->ey,blt->iw,eq_of_beq_eq_true->oV,le_refl->cH,le_trans->kb,lt_or_ge->mR,mul_le_mul_right->jv,mul_one->kY,not_lt_zero->e8,sub_self->mS,zero_add->ee,zero_le->fR
open Ne renaming symm->gq
open Option renaming map_eq_some_iff->dK,map_some->lY
open Option.some renaming injEq->aW
open Prod.mk renaming injEq->d_
namespace Go.aL
open Go.RowKit (Below)
section
variable{P:Program}{w:World}{Γ:Env}{M:Mem}{s:aI}{a:Act}{o:Oper}{v:V}
theorem Wl:∀(rs:List (List V))(rows:List (List V))(i:Nat),(oF rows i rs).length=rows.length
 |[],rows,i=>rfl
 |r::rs,rows,i=>by simp[oF,Wl rs]
theorem Wk:∀(rs:List (List V))(rows:List (List V))(i j:Nat),i+rs.length<=rows.length->(oF rows i rs)[j]? =if i<=j/\j<i+rs.length then rs[j -i]? else rows[j]?
 |[],rows,i,j,_=>by simp[oF];intro _ _;omega
 |r::rs,rows,i,j,h=>by
  simp only[dC] at h;rw[oF,Wk rs _ _ _ (by simp;omega)];by_cases aa:i+1<=j/\j<i+1+rs.length
  . rw[if_pos aa,if_pos (by simp only[dC];omega)]
    rw[show j -i=(j -(i+1))+1 by omega,List.getElem?_cons_succ]
  . rw[if_neg aa]
    by_cases af:j=i
    . subst af
      rw[if_pos (by simp only[dC];omega),mS,ji,eB (by omega)]
    . rw[if_neg (by simp only[dC];omega),dv (by omega)]
def KI(n:Nat):V->V
 |.slice rows _=>.slice (rows.take n) .cx
 |.aZ id ver start _=>.aZ id ver start n
 |v=>v
theorem aPQ{x:V}{p:Option Addr}{len cap:Nat}(ad:bq w Γ x (.slice p len cap)){sz:Nat}{xr:List (List V)}(h:eK sz M x=some xr){n:Nat}(aK:n<=xr.length)(a8:0<n):
 bq w Γ (KI n x) (.slice p n cap)/\eK sz M (KI n x)=some (xr.take n):=by
 unfold eK at h;split at h
 . rename_i rs c
   obtain⟨cn,rfl⟩:=fg h;generalize d7:Value.slice p len cap=bj at ad;cases ad with
   |iO=>simp at aK;omega
   |lR=>simp at aK;omega
   |slice _ _ b of z aCY bn ar aD f7 fT bl dO ay f0=>
    simp only[Value.slice.injEq] at d7;obtain⟨rfl,rfl,rfl⟩:=d7;have ag:(rs.take n).length=n:=by simp;omega
    have get:∀(i:Nat)(r:List V),(rs.take n)[i]? =some r->rs[i]? =some r:=fun i r an=>by
     have hi:i<n:=by have:=(bo.1 an).1;omega
     rwa [hA hi] at an
    have UW:=bq.slice (w:=w) (Γ:=Γ) (rs.take n) .cx b of z cap bn (by simp) (by simp) (by rw[ag];omega) (fun i r an=>fT i r (get i r an)) (fun i j hi ap=>bl i j (by omega) ap) (fun i j hi ap=>dO i j (by omega) ap) (fun i r j x an ad=>ay i r j x (get i r an) ad) (fun i r j x an ad=>f0 i r j x (get i r an) ad);rw[ag] at UW;refine⟨UW,?_⟩;have:fr sz (rs.take n)=true:=by
     cases rs with
     |nil=>simp[fr]
     |cons r rs=>cases n with
      |zero=>omega
      |succ n=>exact cn
    simp[KI,eK,this]
 . rename_i id ver start N4
   split at h
   . rename_i z rows hX fz a7
     cases aj:(z==sz&&hX==ver&&decide (start+N4<=rows.length)) with
     |false=>rw[aj] at h;simp at h
     |true=>
      rw[aj] at h;simp only[cond_true,aW] at h;subst h;simp only[cc,beq_iff_eq,decide_eq_true_eq] at aj;have hlen:((rows.drop start).take N4).length=N4:=by simp;omega
      rw[hlen] at aK;generalize d7:Value.slice p len cap=bj at ad;cases ad with
      |aZ _ _ _ _ l ag jE _ eA ar=>
       subst d7;refine⟨.aZ id ver start n l ag jE _ (fun e=>?_) rfl,?_⟩
       . rcases eA e with⟨aw,a_,aq⟩|⟨eh,f7,of,ie,aq,i5,hs,gJ⟩
         . omega
         . simp only[Value.slice.injEq] at aq
           obtain⟨rfl,rfl,rfl⟩:=aq;exact .inr ⟨eh,by omega,of,_,rfl,i5,by omega,gJ⟩
       . have a4:(z==sz&&hX==ver&&decide (start+n<=rows.length))=true:=by simp[aj.1.1,aj.1.2];omega
         simp only[KI,eK,a7,a4,cond_true,aW];rw[List.take_take,Nat.min_eq_left aK]
   . cases h
 . cases h
theorem aDx(aB:Good w Γ M)(ak:ep w Γ s a.tmps){d x:Operand}{hF dh:aU}{t ab e:TypeId}{n:Nat}{ah:Mem}(aA:o.op=.call ⟨.builtin .copy,#[d,x],#[t,ab]⟩) (hu:P.underlying t=some (.slice e)) (aK:e7 P e=some n) (aw:b4 d=some hF) (ad:b4 x=some dh)
 (h:u4 n (aP s hF) (aP s dh) M=some (v,ah)):h_ P w Γ a o v ah:=by
 have rd:=d5 ak aw;have rx:=d5 ak ad;unfold u4 at h;split at h
 . rename_i id ver start len xr ba ov
   rw[ba] at rd;split at h
   . rename_i z rows hX fz a7
     obtain⟨aj,h⟩:=rk h;simp only[aW,d_] at h;obtain⟨rfl,rfl⟩:=h;simp only[cc,beq_iff_eq,decide_eq_true_eq] at aj;obtain⟨⟨⟨a_,aq⟩,hle⟩,m1⟩:=aj;obtain⟨p,cap,aRe,d7,_,_⟩:=yv (P:=P) aB rx ov;have src:∃bK:List Value,mv w Γ n (xr.take len) bK/\(Builtin.firstCells n (min xr.length len) (a.eval x)).run P w=.ok bK.toArray w:=by
      rcases Nat.eq_zero_or_pos (min xr.length len) with a8|a8
      . have fY:xr.take len=[]:=by
         apply List.eq_nil_of_length_eq_zero;rw[iS];omega
        refine⟨[],?_,?_⟩
        . rw[fY];exact⟨by simp,fun i r an=>by simp at an,fun i r j x an=>by simp at an⟩
        . rw[a8,d7]
          cases p with
          |none=>simp[Builtin.firstCells]
          |some p=>simp[Builtin.firstCells,loadCells,loadCellsFrom]
      . rw[d7] at rx
        obtain⟨iB,r2⟩:=aPQ (n:=min xr.length len) rx ov (by omega) a8;obtain⟨p',aCY,bK,a4,bd,e3⟩:=yv (P:=P) aB iB r2;have l4:xr.take (min xr.length len)=xr.take len:=by
         rw[Nat.min_comm,<-List.take_take,g_ (cH xr.length)]
        rw[l4] at bd;refine⟨bK,bd,?_⟩;have mY:=e3 w rfl;have zl:(xr.take (min xr.length len)).length=min xr.length len:=by simp
        rw[zl] at mY;rw[d7];cases p with
        |none=>simpa[Builtin.firstCells] using mY
        |some p=>simpa[Builtin.firstCells] using mY
     obtain⟨bK,qi,cw⟩:=src;have NB:=cw;rw[Nat.min_comm] at NB;have H7:(xr.take len).length=min xr.length len:=by rw[iS];omega
     have Ni:(Builtin.lenOf (a.eval x)).run P w=.ok xr.length w:=by rw[d7];simp[Builtin.lenOf]
     have sN:Nat.min xr.length len=min xr.length len:=rfl;generalize MS:a.eval d=aRa at rd;cases rd with
     |aZ _ _ _ _ l ag jE _ eA _=>
      obtain⟨aa,a8,af,az,bh,bC,ca,dY,cp⟩:=aB.eL id l _ ag a7;rcases eA (by rw[af,aq]) with⟨zH,Nh,MT⟩|⟨eh,f7,of,ie,MT,i5,hs,gJ⟩
      . subst MT
        subst Nh;have fY:oF rows start (xr.take 0)=rows:=by simp[oF]
        rw[fY];have e0:M.set id (.arr z rows hX fz)=M:=by
         apply oT;intro i;by_cases hi:id=i
         . subst hi
           rw[eB (bo.1 a7).1,a7]
         . rw[dv hi]
        rw[e0];refine⟨.value (.int .i64 (min 0 xr.length:Nat)),w,Γ,?_,.inl ⟨_,rfl,.int _ _⟩,aB,Ext.refl _ _⟩;rw[Nat.min_zero] at cw;simp[execOp,aA,resolve,invoke,builtin,Builtin.copy_,et hu,g6 aK,MS,Ni,cw,goInt]
      . subst MT
        obtain⟨dj,c,T,cp,eU,fy⟩:=cp eh;have No:0<min xr.length len->of=start*l.sz:=fun ay=>gJ (by omega);have h0:bK.length=min xr.length len*l.sz:=by rw[qi.1,H7,a8,a_]
        have nB:=qi.one;have l8:min xr.length len=0∨start*l.sz+bK.length<=c.size:=by
         rcases Nat.eq_zero_or_pos (min xr.length len) with q|q
         . exact .inl q
         . right
           rw[h0,eU,<-iv];exact jv _ (by omega)
        rcases Nat.eq_zero_or_pos (min xr.length len) with q|q
        . have fY:oF rows start (xr.take len)=rows:=by
           have:xr.take len=[]:=List.eq_nil_of_length_eq_zero (by omega);rw[this];rfl
          rw[fY];have e0:M.set id (.arr z rows hX fz)=M:=by
           apply oT;intro i;by_cases hi:id=i
           . subst hi
             rw[eB (bo.1 a7).1,a7]
           . rw[dv hi]
          rw[e0];have xw:bK=[]:=List.eq_nil_of_length_eq_zero (by rw[h0,q,Nat.zero_mul]);subst xw;refine⟨.value (.int .i64 (min len xr.length:Nat)),w,Γ,?_,.inl ⟨_,rfl,.int _ _⟩,aB,Ext.refl _ _⟩;simp[execOp,aA,resolve,invoke,builtin,Builtin.copy_,et hu,g6 aK,MS,Ni,NB,goInt,storeCells,Nat.min_comm]
        . have xG:=No q
          subst xG;have l8:start*l.sz+bK.length<=c.size:=l8.resolve_left (by omega);obtain⟨w',aT,a2,bJ,c8,eI,eZ,iI⟩:=yD (P:=P) bK c (start*l.sz) 0 w cp (by omega) nB;rw[iT] at a2;have aRy:fz*l.sz<=start*l.sz:=jv _ m1;have he:Ext w Γ w' Γ:=Ext.write aB ag bJ c8 eI eZ iI (fun o' ei=>by
           refine OO cp a2 ?_;rw[kB a2,kB cp];have bx:o'<fz*l.sz:=(dj o').1 ei;have vw:o'<c.size:=by omega
           rw[jV (by rw[s_];exact vw),jV vw,r7 _ _ _ _ l8,if_neg (by omega)]);have aKw:start+(xr.take len).length<=rows.length:=by omega
          have vA:=Wl (xr.take len) rows start;have zV:=fun j=>Wk (xr.take len) rows start j aKw;refine⟨.value (.int .i64 (min len xr.length:Nat)),w',Γ,?_,.inl ⟨_,rfl,.int _ _⟩,aB.write ag eh he bJ ?_,he⟩
          . simp[execOp,aA,resolve,invoke,builtin,Builtin.copy_,et hu,g6 aK,MS,Ni,NB,goInt,aT,Nat.min_comm]
          . refine⟨aa,a8,af,by rw[vA];exact az,by rw[vA];exact bh,bC,fun i fO hi=>?_,fun i fO j x hi ap=>?_,fun _=>⟨dj,_,T,a2,by rw[s_];exact eU,fun i fO j x hi ap=>?_⟩⟩
            . rw[zV] at hi
              split at hi
              . rw[a8,a_];exact qi.2.1 _ _ hi
              . exact ca i fO hi
            . rw[zV] at hi
              split at hi
              . exact(qi.2.2 _ _ _ _ hi ap).1
              . exact dY _ _ _ _ hi ap
            . rw[zV] at hi
              rw[r7 _ _ _ _ l8];split at hi
              . rename_i eN
                have ex:j<l.sz:=by rw[a8,a_,<-qi.2.1 _ _ hi];exact(bo.1 ap).1
                have an:=(qi.2.2 _ _ _ _ hi ap).2.ext he;obtain⟨gT,xK⟩:∃gT,i=start+gT:=⟨i -start,by omega⟩;subst xK;have xL:gT<min xr.length len:=by omega
                have aJy:gT*l.sz+l.sz<=min xr.length len*l.sz:=by
                 rw[<-Nat.succ_mul];exact jv _ xL
                rw[iv,if_pos (by omega)];rw[Nat.add_sub_cancel_left] at an;rw[show start*l.sz+gT*l.sz+j -start*l.sz=gT*n+j by rw[a8,a_];omega];exact an
              . rename_i eN
                have ex:j<l.sz:=by rw[<-ca i fO hi];exact(bo.1 ap).1
                have an:=(fy i fO j x hi ap).ext he;have:¬(start*l.sz<=i*l.sz+j/\i*l.sz+j<start*l.sz+bK.length):=by
                 rintro⟨dx,dm⟩;rw[h0] at dm;rcases mR i start with h|h
                 . have:i*l.sz+l.sz<=start*l.sz:=by rw[<-Nat.succ_mul];exact jv _ h
                   omega
                 . have hH:start+min xr.length len<=i:=by omega
                   have:start*l.sz+min xr.length len*l.sz<=i*l.sz:=by rw[<-iv];exact jv _ hH
                   omega
                rw[if_neg this];exact an
   . cases h
 . cases h
theorem Good.freeze{id z ver fz k:Nat}{rows:List (List V)}{l:Loc}(aB:Good w Γ M)(ag:Γ.c0[id]? =some l)(a7:M[id]? =some (.arr z rows ver fz))(ao:k<=rows.length)(eh:l.live=true):
 Good w {Γ with S:=fun b o=>Γ.S b o∨(b=l.b/\o<k*l.sz)} (M.set id (.arr z rows ver (max fz k)))/\Ext w Γ w {Γ with S:=fun b o=>Γ.S b o∨(b=l.b/\o<k*l.sz)}:=by
 have he:Ext w Γ w {Γ with S:=fun b o=>Γ.S b o∨(b=l.b/\o<k*l.sz)}:=
  ⟨fun b o ak=>⟨.inl ak,rfl⟩,fun i m hm=>⟨m,hm,cH _,fun _=>rfl,fun _=>rfl⟩,rfl,Below.refl _ _,fun b o aj ak=>by
    rcases ak with ak|⟨rfl,_⟩
    . exact ak
    . have:=aB.cz id l ag;omega⟩;refine⟨⟨by rw[eR];exact aB.len,fun i m B hm bU=>?_,aB.cz,aB.inj,fun b o ak=>?_,aB.base,aB.jO⟩,he⟩
 . have bx:id<M.length:=(bo.1 a7).1
   by_cases hi:id=i
   . subst hi
     rw[eB bx] at bU;simp only[aW] at bU;subst bU;have:m=l:=by rw[show Γ.c0[id]? =some m from hm] at ag;simpa using ag
     subst this;obtain⟨aa,a8,af,az,bh,bC,ca,dY,cp⟩:=aB.eL id m _ hm a7;obtain⟨dj,c,T,cp,eU,fy⟩:=cp eh;refine⟨aa,a8,af,by omega,bh,bC,ca,dY,fun _=>⟨fun o=>?_,c,T,cp,eU,fun i r j x an ad=>(fy i r j x an ad).ext he⟩⟩;constructor
     . rintro(ak|⟨_,ak⟩)
       . have:=(dj o).1 ak
         have hH:fz*m.sz<=max fz k*m.sz:=jv _ (Nat.le_max_left _ _);omega
       . have hH:k*m.sz<=max fz k*m.sz:=jv _ (Nat.le_max_right _ _)
         omega
     . intro aA
       rcases Nat.le_total fz k with h|h
       . rw[Nat.max_eq_right h] at aA;exact .inr ⟨rfl,aA⟩
       . rw[Nat.max_eq_left h] at aA;exact .inl ((dj o).2 aA)
   . rw[dv hi] at bU
     refine(aB.eL i m B hm bU).fN he (fun _=>rfl) (fun aq o aA=>?_);rcases aA with aA|⟨aj,_⟩
     . exact aA
     . exact absurd (aB.inj i id m l hm ag aq eh aj).symm hi
 . rcases ak with ak|⟨rfl,ak⟩
   . exact aB.jL b o ak
   . obtain⟨aa,a8,af,az,bh,bC,ca,dY,cp⟩:=aB.eL id l _ ag a7
     obtain⟨dj,c,T,cp,eU,fy⟩:=cp eh;have:k*l.sz<=l.cap*l.sz:=jv _ (by omega);exact⟨c.getD o Go.undef,by rw[kB cp];exact jV (by omega)⟩
theorem aO6(aB:Good w Γ M)(ak:ep w Γ s a.tmps){t e:TypeId}{x h m:Operand}{dh hH e6:aU}{n:Nat}{ah:Mem}(aA:o.op=.slice t x none (some h) (some m))(hu:P.underlying t=some (.slice e))(aK:e7 P e=some n)(ad:b4 x=some dh)(cn:b4 h=some hH)(hm:b4 m=some e6)
 (aq:yz n (aP s dh) (aP s hH) (aP s e6) M=some (v,ah)):h_ P w Γ a o v ah:=by
 have rx:=d5 ak ad;unfold yz at aq;split at aq
 . rename_i id ver len ba
   rw[ba] at rx;split at aq
   . rename_i z rows hX fz k p dk q a7 Nb gI
     obtain⟨aj,aq⟩:=rk aq;simp only[aW,d_] at aq;obtain⟨rfl,rfl⟩:=aq;simp only[cc,beq_iff_eq,decide_eq_true_eq] at aj;obtain⟨⟨⟨⟨⟨⟨a_,hL⟩,HU⟩,sQ⟩,pu⟩,mb⟩,pw⟩:=aj;subst pu;generalize d7:a.eval x=bj at rx;cases rx with
     |aZ _ _ _ _ l ag jE _ eA _=>
      obtain⟨aa,a8,af,az,bh,bC,ca,dY,cp⟩:=aB.eL id l _ ag a7;have eh:l.live=true:=bq.Fs aB ag a7 (by rintro rfl;simp at pw);obtain⟨dj,c,T,Mx,eU,fy⟩:=cp eh;rcases eA (by rw[af,hL]) with⟨aw,_⟩|⟨_,f7,of,ie,rfl,i5,hs,gJ⟩
      . rw[eh] at aw;cases aw
      . obtain⟨aT,a2⟩:=Good.freeze (k:=p.toNat) aB ag a7 (by omega) eh
        have cw:(Instr.sliceBounds true len ie (none:Option Value) (some (a.eval h)) (some (a.eval m))).run P w=.ok (0,p.toNat,p.toNat) w:=by
         have:=wh (P:=P) (b:=true) (len:=len) (cap:=ie) (l:=0) (h:=p.toNat) (m:=p.toNat) ak (lo:=none) (lo':=none) (hi:=some h) (hi':=some hH) (mx:=some m) (mx':=some e6) rfl (by simp[hS,cn]) (by simp[hS,hm]) (.inr (by simp)) rfl (by simp[eM,Nb,iG,sQ]) (by simp[eM,gI,iG,sQ]) (fR _) (cH _) (by omega) w;simpa using this
        refine⟨.value (.slice (some ⟨l.b,of,none⟩) p.toNat p.toNat),w,_,?_,.inl ⟨_,rfl,?_⟩,aT,a2⟩
        . rcases Nat.eq_zero_or_pos p.toNat with gT|gT
          . rw[gT] at cw⊢
            simp[execOp,aA,Instr.sliceAt,Instr.slice,et hu,d7,cw,g6 aK]
          . have dx:p.toNat≠0:=by omega
            simp[execOp,aA,Instr.sliceAt,Instr.slice,et hu,d7,cw,g6 aK,Addr.add,dx]
        . rcases Nat.eq_zero_or_pos p.toNat with gT|gT
          . rw[gT,List.take_zero]
            exact .lR _ (by simp) _
          . have xG:=gJ (by omega)
            rw[Nat.zero_mul] at xG;subst xG;have fc:(rows.take p.toNat).length=p.toNat:=by rw[iS];omega
            have get:∀(i:Nat)(r:List V),(rows.take p.toNat)[i]? =some r->rows[i]? =some r:=fun i r an=>by
             have hi:i<p.toNat:=by have:=(bo.1 an).1;omega
             rwa [hA hi] at an
            have dO:∀i j,i<p.toNat->j<l.sz->i*l.sz+j<p.toNat*l.sz/\i*l.sz+j<c.size:=fun i j hi ap=>by
             have a4:i*l.sz+l.sz<=p.toNat*l.sz:=by rw[<-Nat.succ_mul];exact jv _ hi
             have bd:p.toNat*l.sz<=l.cap*l.sz:=jv _ (by omega);omega
            have:=bq.slice (w:=w) (Γ:={Γ with S:=fun b o=>Γ.S b o∨(b=l.b/\o<p.toNat*l.sz)}) (rows.take p.toNat) .full l.b 0 l.sz p.toNat (fun i j=>c.getD (i*l.sz+j) Go.undef) (by simp) (fun _=>fc.symm) (by omega)
             (fun i r an=>ca i r (get i r an))
             (fun i j hi ap=>.inr ⟨rfl,by rw[ee];exact(dO i j (by omega) ap).1⟩)
             (fun i j hi ap=>by rw[ee,kB Mx];exact jV (dO i j (by omega) ap).2)
             (fun i r j x an ad=>dY i r j x (get i r an) ad)
             (fun i r j x an ad=>(fy i r j x (get i r an) ad).ext a2);rw[fc] at this;exact this
   . cases aq
 . rename_i rows c ba
   simp only[dK,d_] at aq;obtain⟨y,aq,rfl,rfl⟩:=aq;refine(Xg (P:=P) (a:=a) (o:=o) aB ak (lo:=none) (hi:=some h) (mx:=some m) (lo':=none) (hi':=some hH) (mx':=some e6) aA hu aK ad rfl (by simp[hS,cn]) (by simp[hS,hm]) (.inr (by simp)) ?_).V6 aB;rw[ba];exact aq
 . cases aq
theorem V7(aB:Good w Γ M){x:V}{bn:Value}(rx:bq w Γ x bn)(cw:(execOp a.eval o).run P w=.ok (.value bn) w){ah:Mem}(aq:oC x M=some (v,ah)):h_ P w Γ a o v ah:=by
 unfold oC at aq;split at aq
 . rename_i id ver len
   split at aq
   . rename_i z rows hX fz a7
     obtain⟨aj,aq⟩:=rk aq;simp only[cc,beq_iff_eq,decide_eq_true_eq] at aj;obtain⟨hL,HU⟩:=aj;rcases Nat.eq_zero_or_pos len with i9|pw
     . subst i9
       simp only[Nat.lt_irrefl,decide_false,cond_false,aW,d_] at aq;obtain⟨rfl,rfl⟩:=aq;cases rx with
       |aZ _ _ _ _ l ag jE _ eA _=>
        obtain⟨aa,a8,af,az,bh,bC,ca,dY,cp⟩:=aB.eL id l _ ag a7;refine⟨.value _,w,Γ,cw,.inl ⟨_,rfl,?_⟩,aB,Ext.refl _ _⟩;rcases eA (by rw[af,hL]) with⟨_,_,rfl⟩|⟨_,_,of,ie,rfl,_,_,_⟩
        . exact .iO _ (.inr rfl)
        . exact bq.slice [] .cx l.b of 0 ie (fun _ _=>Go.undef) (by simp) (fun h=>by cases h) (by simp) (fun i r an=>by simp at an) (fun i j hi=>by simp at hi) (fun i j hi=>by simp at hi) (fun i r j x an=>by simp at an) (fun i r j x an=>by simp at an)
     simp only[decide_eq_true pw,cond_true,aW,d_] at aq;obtain⟨rfl,rfl⟩:=aq;cases rx with
     |aZ _ _ _ _ l ag jE _ eA _=>
      obtain⟨aa,a8,af,az,bh,bC,ca,dY,cp⟩:=aB.eL id l _ ag a7;have eh:l.live=true:=bq.Fs aB ag a7 (by rintro rfl;simp at HU;omega);obtain⟨dj,c,T,Mx,eU,fy⟩:=cp eh;rcases eA (by rw[af,hL]) with⟨aw,_⟩|⟨_,f7,of,ie,rfl,i5,hs,gJ⟩
      . rw[eh] at aw;cases aw
      . obtain⟨aT,a2⟩:=Good.freeze (k:=len) aB ag a7 HU eh
        refine⟨.value (.slice (some ⟨l.b,of,none⟩) len ie),w,_,cw,.inl ⟨_,rfl,?_⟩,aT,a2⟩;have gT:0<len:=pw;have xG:=gJ (by omega);rw[Nat.zero_mul] at xG;subst xG;have fc:(rows.take len).length=len:=by rw[iS];omega
        have get:∀(i:Nat)(r:List V),(rows.take len)[i]? =some r->rows[i]? =some r:=fun i r an=>by
         have hi:i<len:=by have:=(bo.1 an).1;omega
         rwa [hA hi] at an
        have dO:∀i j,i<len->j<l.sz->i*l.sz+j<len*l.sz/\i*l.sz+j<c.size:=fun i j hi ap=>by
         have a4:i*l.sz+l.sz<=len*l.sz:=by rw[<-Nat.succ_mul];exact jv _ hi
         have bd:len*l.sz<=l.cap*l.sz:=jv _ (by omega);omega
        have:=bq.slice (w:=w) (Γ:={Γ with S:=fun b o=>Γ.S b o∨(b=l.b/\o<len*l.sz)}) (rows.take len) .cx l.b 0 l.sz ie (fun i j=>c.getD (i*l.sz+j) Go.undef) (by simp) (fun h=>by cases h) (by omega)
         (fun i r an=>ca i r (get i r an))
         (fun i j hi ap=>.inr ⟨rfl,by rw[ee];exact(dO i j (by omega) ap).1⟩)
         (fun i j hi ap=>by rw[ee,kB Mx];exact jV (dO i j (by omega) ap).2)
         (fun i r j x an ad=>dY i r j x (get i r an) ad)
         (fun i r j x an ad=>(fy i r j x (get i r an) ad).ext a2);rw[fc] at this;exact this
   . cases aq
 . simp only[aW,d_] at aq
   obtain⟨rfl,rfl⟩:=aq;exact⟨_,w,Γ,cw,.inl ⟨_,rfl,rx⟩,aB,Ext.refl w Γ⟩
theorem V8(aB:Good w Γ M)(ak:ep w Γ s a.tmps){x:Operand}{y:aU}{ah:Mem}(aA:o.op=.move x∨o.op=.assign x)(aE:b4 x=some y)(aq:oC (aP s y) M=some (v,ah)):h_ P w Γ a o v ah:=by
 obtain⟨bn,rx,cw⟩:=Of (P:=P) ak aA aE;exact V7 aB rx (cw w (Below.refl _ _)) aq
theorem aLP(aB:Good w Γ M)(ak:ep w Γ s a.tmps){t:TypeId}{x:Operand}{y:aU}{ah:Mem}(aA:o.op=.load t x)(aK:e7 P t=some 1)(a9:kg P t=some false)(aE:b4 x=some y)
 (aq:Ar (aP s y) M=some (v,ah)):h_ P w Γ a o v ah:=by
 unfold Ar at aq;split at aq
 . rename_i ae tY
   obtain⟨bn,rx,cw⟩:=VH (P:=P) aB ak aA aK a9 aE tY;exact V7 aB rx (cw w (Below.refl _ _)) aq
 . cases aq
end
end Go.aL
namespace Go.aL
open Go.RowKit (Below)
section
variable{P:Program}{w:World}{Γ:Env}{M:Mem}{s:aI}{a:Act}{o:Oper}{v:V}
theorem hD{α β EZ:Type}{x:Option α}{y:Option β}{f:α->β->EZ}{z:EZ}(h:q_ x y f=some z):∃p q,x=some p/\y=some q/\z=f p q:=by
 unfold q_ at h;split at h
 . simp only[aW] at h;exact⟨_,_,rfl,rfl,h.symm⟩
 . cases h
def A1(P:Program)(w:World)(Γ:Env)(M:Mem)(s:aI)(a:Act)(o:Oper)(co:dM):Prop:=
 (co.ht=true->∀v ah,m_ co s M=some (v,ah)->h_ P w Γ a o v ah)/\
 (co.ht=false->∀v,hU co s M=some v->h_ P w Γ a o v M/\(co.aNH=true->hB P w Γ a o v))
theorem ib(aB:Good w Γ M){co:dM}(hm:co.ht=false)(h:∀v,hU co s M=some v->hB P w Γ a o v):A1 P w Γ M s a o co:=
 ⟨(fun e=>by rw[hm] at e;cases e),fun _ v aq=>⟨(h v aq).V6 aB,fun _=>h v aq⟩⟩
theorem jy{co:dM}(hm:co.ht=true)(h:∀v ah,m_ co s M=some (v,ah)->h_ P w Γ a o v ah):A1 P w Γ M s a o co:=
 ⟨(fun _=>h),(fun e=>by rw[hm] at e;cases e)⟩
theorem Wt(aB:Good w Γ M)(ak:ep w Γ s a.tmps){op:BinOp}{t hy:TypeId}{x y:Operand}{dh hh:aU}{neg:Bool}(aA:o.op=.binOp op t x y hy)(ad:b4 x=some dh)(aE:b4 y=some hh)
 (aV:AJ P t=true)(hb:op=.eql/\neg=false∨op=.neq/\neg=true){ah:Mem}(h:yr neg (aP s dh) (aP s hh) M=some (v,ah)):h_ P w Γ a o v ah:=by
 have rx:=d5 ak ad;have hV:=d5 ak aE;unfold AJ at aV;split at aV
 . rename_i e hu
   split at aV
   . rename_i n aK
     have qn:n≠0:=by simpa using Nat.pos_iff_ne_zero.1 (of_decide_eq_true aV)
     unfold yr at h;split at h
     . rename_i i uv j uw M1 M2
       rw[M1] at rx;rw[M2] at hV;split at h
       . rename_i eX g1 aa af
         simp only[aW,d_] at h;obtain⟨rfl,rfl⟩:=h;generalize d7:a.eval x=bj at rx;generalize MW:a.eval y=df at hV;cases rx with
         |ptr _ _ l ag aj aq=>
          cases hV with
          |ptr _ _ l' er mz rN=>
           obtain⟨_,_,_,d1,abc,bI,_⟩:=aB.eL i l _ ag aa;obtain⟨_,_,_,d2,abd,ce,_⟩:=aB.eL j l' _ er af;have nE:(sameAddr ⟨l.b,uv,none⟩ ⟨l'.b,uw,none⟩).run P w=.ok (decide (i=j)&&decide (uv=uw)) w:=by
            by_cases jW:i=j
            . subst jW
              rw[ag] at er;simp only[aW] at er;subst er;by_cases hb:uv=uw
              . subst hb;simp[run_sameAddr_same]
              . rw[run_sameAddr_other w (by simpa using hb) bI ce];simp[hb]
            . have cD:l.b≠l'.b:=fun e=>jW (aB.inj i j l l' ag er aq rN e)
              rw[run_sameAddr_other w (by intro e;exact cD (congrArg Addr.block e)) bI ce];simp[jW]
           have cw:(Op.equalIn (9999+1) t (.pointer (some ⟨l.b,uv,none⟩)) (.pointer (some ⟨l'.b,uw,none⟩))).run P w=.ok (decide (i=j)&&decide (uv=uw)) w:=by
            rw[Op.equalIn];simp[et hu,g6 aK,qn,nE]
           have fJ:∀(p q:Operand),(eqGuard op t p q (.pointer (some ⟨l.b,uv,none⟩)) (.pointer (some ⟨l'.b,uw,none⟩))).run P w=.ok () w:=fun p q=>tK op t p q _ _ (by simp) (by simp) w;refine⟨.value (.bool ((decide (i=j)&&decide (uv=uw)) !=neg)),w,Γ,?_,.inl ⟨_,rfl,.bool _⟩,aB,Ext.refl _ _⟩;have MN:(binOp op t (.pointer (some ⟨l.b,uv,none⟩)) (.pointer (some ⟨l'.b,uw,none⟩))).run P w=.ok (.bool ((decide (i=j)&&decide (uv=uw)) !=neg)) w:=by
            rcases hb with⟨rfl,rfl⟩|⟨rfl,rfl⟩
            . show(do pure (.bool (<-Op.equal t _ _)):Sem Value).run P w=_
              simp[w6,cw]
            . show(do pure (.bool (!(<-Op.equal t _ _))):Sem Value).run P w=_
              simp[w6,cw]
           simp only[execOp,aA,Sem.run_bind,d7,MW,fJ,Result.andThen_ok,MN];simp
       . cases h
     . cases h
   . cases aV
 . cases aV
theorem Fl{co:dM}(ar:co.jH=true):A1 P w Γ M s a o co:=by
 cases co<;>simp[dM.jH] at ar
 . exact⟨(fun e=>by cases e),(fun _ v aq=>by simp[hU] at aq)⟩
 . exact⟨(fun e=>by cases e),(fun _ v aq=>by simp[hU] at aq)⟩
theorem acP(aB:Good w Γ M)(ak:ep w Γ s a.tmps){mu:Bool}{b:Builtin}{args:Array Operand}{iP:Array TypeId}{co:dM}(aA:o.op=.call ⟨.builtin b,args,iP⟩)(h:wb P b args.toList iP.toList mu=some co):A1 P w Γ M s a o co:=by
 have my:∀l:List Operand,args.toList=l->args=l.toArray:=fun l ag=>by rw[<-ag]
 have o9:∀l:List TypeId,iP.toList=l->iP=l.toArray:=fun l ag=>by rw[<-ag]
 unfold wb at h;split at h
 . rename_i x t ad aV
   have ad:=my _ ad;have aV:=o9 _ aV;subst ad aV;split at h
   . rename_i hu
     simp only[dK] at h;obtain⟨y,aE,rfl⟩:=h;exact ib aB rfl fun v aq=>aLy ak aA hu aE aq
   . rename_i e hu
     simp only[dK] at h;obtain⟨y,aE,rfl⟩:=h;exact ib aB rfl fun v aq=>aLw aB ak aA hu aE aq
   . rename_i kt o9 hu
     simp only[dK] at h;obtain⟨y,aE,rfl⟩:=h;exact jy rfl fun v ah aq=>aLv aB ak aA hu aE aq
   . rename_i n e hu
     simp only[aW] at h;subst h;exact ib aB rfl fun v aq=>by
      simp only[hU,aW] at aq;subst aq;exact Vw aA (.inl hu)
   . rename_i hy hu
     split at h
     . rename_i n e ot
       simp only[aW] at h;subst h;exact ib aB rfl fun v aq=>by
        simp only[hU,aW] at aq;subst aq;exact Vw aA (.inr ⟨hy,hu,ot⟩)
     . cases h
   . cases h
 . rename_i x y t ab ad aV
   have ad:=my _ ad;have aV:=o9 _ aV;subst ad aV;split at h
   . rename_i e fx hu kH
     split at h
     . rename_i i dh hh hi ad aE
       split at h
       . rename_i ar
         simp only[aW] at h;subst h;simp only[cc,decide_eq_true_eq] at ar;exact jy rfl fun v ah aq=>ab0 aB ak aA hu kH hi ar.1 ar.2 ad aE aq
       . cases h
     . cases h
   . cases h
 . rename_i x y t ab ad aV
   have ad:=my _ ad;have aV:=o9 _ aV;subst ad aV;split at h
   . rename_i e fx hu kH
     split at h
     . rename_i n dh hh aK ad aE
       split at h
       . simp only[aW] at h
         subst h;exact jy rfl fun v ah aq=>aDx aB ak aA hu aK ad aE aq
       . cases h
     . cases h
   . cases h
 . rename_i x y ad
   have ad:=my _ ad;subst ad;obtain⟨p,q,ay,aG,rfl⟩:=hD h;exact ib aB rfl fun v aq=>V2 (mx:=true) ak aA ay aG aq
 . rename_i x y ad
   have ad:=my _ ad;subst ad;obtain⟨p,q,ay,aG,rfl⟩:=hD h;exact ib aB rfl fun v aq=>V2 (mx:=false) ak aA ay aG aq
 . cases h
theorem abY(aB:Good w Γ M)(ak:ep w Γ s a.tmps){mu ld:Bool}{co:dM}(h:gU P mu ld o.type o.op=some co):A1 P w Γ M s a o co:=by
 generalize aA:o.op=op at h;cases op<;>simp only[gU,reduceCtorEq] at h
 case move x=>
  split at h
  . simp only[dK] at h
    obtain⟨y,aE,rfl⟩:=h;exact ib aB rfl fun v aq=>by
     simp only[hU,aW] at aq;subst aq;exact Of ak (.inl aA) aE
  . simp only[dK] at h
    obtain⟨y,aE,rfl⟩:=h;exact jy rfl fun v ah aq=>V8 aB ak (.inl aA) aE aq
 case assign x=>
  split at h
  . split at h
    . rename_i aK
      split at h
      . simp only[aW] at h
        subst h;exact jy rfl fun v ah aq=>Wb aB aA aK (by simpa only[m_] using aq)
      . simp only[dK] at h
        obtain⟨n,_,rfl⟩:=h;exact jy rfl fun v ah aq=>Wb aB aA aK (by simpa only[m_] using aq)
    . simp only[dK] at h
      obtain⟨y,aE,rfl⟩:=h;exact jy rfl fun v ah aq=>V8 aB ak (.inr aA) aE aq
  . simp only[dK] at h
    obtain⟨y,aE,rfl⟩:=h;exact ib aB rfl fun v aq=>by
     simp only[hU,aW] at aq;subst aq;exact Of ak (.inr aA) aE
 case pick c x y=>
  split at h
  . rename_i cK dh hh ar ad aE
    simp only[aW] at h;subst h;exact ib aB rfl fun v aq=>aNq ak aA ar ad aE aq
  . cases h
 case alloc e=>
  simp only[dK] at h;obtain⟨z,a_,rfl⟩:=h;exact jy rfl fun v ah aq=>by
   simp only[m_,Fj,aW,d_] at aq;obtain⟨rfl,rfl⟩:=aq;exact abV aB aA a_
 case box e x=>
  obtain⟨n,y,aK,aE,rfl⟩:=hD h;exact jy rfl fun v ah aq=>acK aB ak aA aE aq
 case build t d3=>
  split at h
  . rename_i bR z hu a_
    split at h
    . rename_i eg
      simp only[dK] at h;obtain⟨cX,fj,rfl⟩:=h;exact ib aB rfl fun v aq=>QV ak aA a_ (.inl ⟨bR,hu,eg,fj⟩) aq
    . cases h
  . rename_i k e z hu a_
    split at h
    . rename_i n aK
      simp only[dK] at h;obtain⟨cX,fj,rfl⟩:=h;exact ib aB rfl fun v aq=>QV ak aA a_ (.inr ⟨k,e,n,hu,aK,fj⟩) aq
    . cases h
  . cases h
 case buildSlice t len d3=>
  split at h
  . rename_i e hu
    split at h
    . rename_i n z aK a_
      split at h
      . rename_i ar
        simp only[cc,beq_iff_eq,decide_eq_true_eq] at ar;split at h;rotate_left
        . split at h
          . rename_i xF
            simp only[dK] at h;obtain⟨cX,fj,rfl⟩:=h;exact jy rfl fun v ah aq=>acN aB ak aA hu aK a_ ar.1.1 (by simpa using xF) ar.2 fj aq
          . cases h
        simp only[dK] at h;obtain⟨cX,fj,rfl⟩:=h;refine⟨(fun e=>by cases e),fun _ v aq=>⟨acM aB ak aA hu aK a_ ar.1.1 ar.1.2 ar.2 fj aq,fun aG=>by cases aG⟩⟩
      . cases h
    . cases h
  . cases h
 case load t x=>
  split at h
  . rename_i n bZ y aK a9 aE
    split at h
    . simp only[aW] at h
      subst h;exact ib aB rfl fun v aq=>VH aB ak aA aK a9 aE aq
    . split at h
      . rename_i ao
        simp only[aW] at h;subst h;simp only[cc,beq_iff_eq,lV] at ao;obtain⟨rfl,rfl⟩:=ao;exact jy rfl fun v ah aq=>aLP aB ak aA aK a9 aE aq
      . cases h
  . cases h
 case store t x y=>
  split at h
  . rename_i n dh hh aK ad aE
    simp only[aW] at h;subst h;exact jy rfl fun v ah aq=>by
     simp only[m_,Kx] at aq;split at aq
     . rename_i y4 MC
       simp only[aW,d_] at aq;obtain⟨rfl,rfl⟩:=aq;exact aPt aB ak aA aK ad aE MC
     . cases aq
  . cases h
 case nilCheck x=>
  simp only[dK] at h;obtain⟨y,aE,rfl⟩:=h;exact ib aB rfl fun v aq=>aMZ ak aA aE aq
 case binOp op t x y hy=>
  split at h
  . rename_i aj
    simp only[cc] at aj;obtain⟨p,q,ay,aG,rfl⟩:=hD h;exact jy rfl fun v ah aq=>Wt aB ak aA ay aG aj.2 (.inl ⟨rfl,rfl⟩) aq
  . rename_i aj
    simp only[cc] at aj;obtain⟨p,q,ay,aG,rfl⟩:=hD h;exact jy rfl fun v ah aq=>Wt aB ak aA ay aG aj.2 (.inr ⟨rfl,rfl⟩) aq
  . obtain⟨p,q,ay,aG,rfl⟩:=hD h
    exact ib aB rfl fun v aq=>acr ak aA ay aG aq
 case unOp op t x=>
  simp only[dK] at h;obtain⟨y,aE,rfl⟩:=h;exact ib aB rfl fun v aq=>aPY ak aA aE aq
 case convert src dst x=>
  split at h
  . rename_i dk k y hu aw aE
    simp only[aW] at h;subst h;exact ib aB rfl fun v aq=>aDw ak aA hu aw aE aq
  . rename_i y hu aw aE
    simp only[aW] at h;subst h;exact ib aB rfl fun v aq=>aDv ak aA hu aw aE aq
  . rename_i e y hu aw aE
    split at h
    . rename_i he
      simp only[aW] at h;subst h;exact ib aB rfl fun v aq=>acS aB ak aA hu he aw aE aq
    . cases h
  . cases h
 case makeFunc fn first c3=>
  cases fn<;>simp only[reduceCtorEq] at h;split at h
  . rename_i aD
    simp only[dK] at h;obtain⟨bH,aE,rfl⟩:=h;exact ib aB rfl fun v aq=>by
     simp only[hU,aW] at aq;subst aq;exact aMD ak aA aD aE
  . cases h
 case makeMap t r=>
  split at h
  . rename_i kt o9 hu
    simp only[dK] at h;obtain⟨fO,an,rfl⟩:=h;exact jy rfl fun v ah aq=>aMg aB ak aA hu an aq
  . cases h
 case lookup t m k ok=>
  split at h
  . rename_i kt e e6 dk hu hm ao
    split at h
    . rename_i z c a_ ar
      obtain⟨ag,rfl⟩:=fg h;exact ib aB rfl fun v aq=>aL1 aB ak aA hu hm ao ar a_ ag aq
    . cases h
  . cases h
 case mapUpdate t m k x=>
  split at h
  . rename_i kt e e6 dk dh hu hm ao ad
    simp only[dK] at h;obtain⟨c,ar,rfl⟩:=h;exact jy rfl fun v ah aq=>aMq aB ak aA hu hm ao ad ar aq
  . cases h
 case mapEntry t m k=>
  split at h
  . rename_i kt e e6 dk hu hm ao
    split at h
    . rename_i z c a_ ar
      obtain⟨ag,rfl⟩:=fg h;simp only[cc] at ag;exact jy rfl fun v ah aq=>aMl aB ak aA hu hm ao ar a_ ag.1 ag.2 aq
    . cases h
  . cases h
 case entryStore t m st x=>
  split at h
  . rename_i e6 O1 dh hm bl ad
    simp only[aW] at h;subst h;exact jy rfl fun v ah aq=>aEb aB ak aA hm bl ad aq
  . cases h
 case makeSlice t l c=>
  split at h
  . rename_i e hu
    split at h
    . rename_i i z l' cK hi a_ ag ar
      split at h
      . rename_i ao
        simp only[cc,beq_iff_eq,decide_eq_true_eq] at ao;split at h
        . simp only[aW] at h
          subst h;exact jy rfl fun v ah aq=>VK aB ak aA hu hi a_ ao.1.1 ao.1.2 ag ar aq
        . simp only[aW] at h
          subst h;exact jy rfl fun v ah aq=>aMk aB ak aA hu hi a_ ao.1.1 ao.1.2 ag ar aq
        . cases h
      . cases h
    . cases h
  . cases h
 case slice t x lo hi mx=>
  split at h
  . rename_i dh lo' hi' hu ad gQ eD jq
    simp only[aW] at h;subst h;have hm:mx=none:=by
     cases mx with
     |none=>rfl
     |some q=>simp[hS] at jq
    subst hm;exact ib aB rfl fun v aq=>aO8 ak aA hu ad gQ eD aq
  . rename_i e dh lo' hi' mx' hu ad gQ eD jq
    split at h
    . simp only[dK] at h
      obtain⟨n,aK,rfl⟩:=h;have Bs:lo=none:=by
       cases lo with
       |none=>rfl
       |some q=>simp[hS] at gQ
      subst Bs;cases hi with
      |none=>simp[hS] at eD
      |some hi=>
       cases mx with
       |none=>simp[hS] at jq
       |some mx=>
        simp only[hS,dK,aW] at eD jq;obtain⟨_,cn,rfl⟩:=eD;obtain⟨_,hm,rfl⟩:=jq;exact jy rfl fun v ah aq=>aO6 aB ak aA hu aK ad cn hm aq
    . cases h
    split at h
    . rename_i ar
      simp only[dK] at h;obtain⟨n,aK,rfl⟩:=h;have pq:mx=none∨hi≠none:=by
       cases mx with
       |none=>exact .inl rfl
       |some q=>
        cases hi with
        |none=>simp at ar
        |some r=>exact .inr (by simp)
      exact ib aB rfl fun v aq=>Xg aB ak aA hu aK ad gQ eD jq pq aq
    . cases h
  . cases h
 case range t x=>
  split at h
  . rename_i kt o9 hu
    simp only[dK] at h;obtain⟨y,aE,rfl⟩:=h;exact jy rfl fun v ah aq=>aNI aB ak aA hu aE aq
  . cases h
 case next x b=>
  cases b<;>simp only[dK,reduceCtorEq] at h;obtain⟨y,aE,rfl⟩:=h;exact jy rfl fun v ah aq=>by simp[m_] at aq
 case entry x=>
  simp only[dK] at h;obtain⟨y,aE,rfl⟩:=h;exact jy rfl fun v ah aq=>aEe aB ak aA aE aq
 case fieldAddr t x f=>
  split at h
  . rename_i bR y hu aE
    split at h
    . rename_i g aD
      split at h
      . rename_i n aK
        split at h
        . cases h
        . rename_i qn
          simp only[aW] at h;subst h;exact ib aB rfl fun v aq=>aEM ak aA hu aD aK qn aE aq
      . cases h
    . cases h
  . cases h
 case field t x f=>
  split at h
  . rename_i bR y hu aE
    split at h
    . rename_i g aD
      split at h
      . rename_i n bZ aK a9
        simp only[aW] at h;subst h;exact ib aB rfl fun v aq=>aEO ak aA hu aD aK a9 aE aq
      . cases h
    . cases h
  . cases h
 case indexAddr t x i=>
  split at h
  . rename_i n e dh eO hu ad hi
    simp only[dK] at h;obtain⟨m,hm,rfl⟩:=h;exact ib aB rfl fun v aq=>aKU ak aA hu hm ad hi aq
  . rename_i e dh eO hu ad hi
    simp only[dK] at h;obtain⟨m,hm,rfl⟩:=h;exact ib aB rfl fun v aq=>aKX aB ak aA hu hm ad hi aq
  . cases h
 case index t x i=>
  split at h
  . rename_i dh eO hu ad hi
    simp only[aW] at h;subst h;exact ib aB rfl fun v aq=>aK1 ak aA hu ad hi aq
  . rename_i n e dh eO hu ad hi
    split at h
    . rename_i m bZ hm a9
      simp only[aW] at h;subst h;exact ib aB rfl fun v aq=>aK0 ak aA hu hm a9 ad hi aq
    . cases h
  . cases h
 case extract x i=>
  simp only[dK] at h;obtain⟨y,aE,rfl⟩:=h;exact ib aB rfl fun v aq=>aEz ak aA aE aq
 case call c=>
  obtain⟨callee,args,iP⟩:=c;cases callee with
  |builtin b=>exact acP aB ak aA h
  |value f=>
   cases f with
   |func f=>
    simp only[dK] at h;obtain⟨bH,_,rfl⟩:=h;exact Fl rfl
   |tmp t=>
    obtain⟨p,q,_,_,rfl⟩:=hD h;exact Fl rfl
   |const c=>
    obtain⟨p,q,_,_,rfl⟩:=hD h;exact Fl rfl
   |global g=>
    obtain⟨p,q,_,_,rfl⟩:=hD h;exact Fl rfl
  |invoke r m=>simp at h
end
end Go.aL
namespace Go.aL
open Go.RowKit (Below)
section
variable{P:Program}{w:World}{Γ:Env}{M:Mem}{s:aI}{a:Act}{o:Oper}{v:V}
theorem wr{n:Nat}:∀{xs:List V},cT n xs=true->∀(j:Nat)(x:V),xs[j]? =some x->x.under n=true
 |[],_,j,x,h=>by simp at h
 |y::bH,hu,j,x,h=>by
  simp only[cT,cc] at hu;cases j with
  |zero=>simp at h;exact h▸hu.1
  |succ j=>exact wr hu.2 j x (by simpa using h)
theorem bq.move{n:Nat}{w':World}{Γ':Env}(ak:∀b o,Γ.S b o->Γ'.S b o/\lh w' b o=lh w b o)(ag:∀i,i<n->Γ'.c0[i]? =Γ.c0[i]?){x:V}{bj:Value}(h:bq w Γ x bj)(ad:x.under n=true):bq w' Γ' x bj:=by
 induction h with
 |undef v=>exact .undef v
 |bool b=>exact .bool b
 |int k n=>exact .int k n
 |str s=>exact .str s
 |dE=>exact .dE
 |gz=>exact .gz
 |jJ=>exact .jJ
 |iO c ar=>exact .iO c ar
 |lR c ar p=>exact .lR c ar p
 |slice rows c b o sz cap bn ar aD f7 fT bl dO ay an bu=>exact(bq.slice rows c b o sz cap bn ar aD f7 fT bl dO ay an).ED ak rfl
 |gA cells b o bn bl dO ay an bu=>exact(bq.gA cells b o bn bl dO ay an).ED ak rfl
 |c7 cells b o bn aK bl dO ay an bu=>exact(bq.c7 cells b o bn aK bl dO ay an).ED ak rfl
 |dF f c3 bn hlen ay an bu=>exact(bq.dF f c3 bn hlen ay an).ED ak rfl
 |ptr id off l er aj aq=>exact .ptr id off l (by rw[ag id (by simpa[V.under] using ad)];exact er) aj aq
 |fq id ver row off l er aq p h=>exact .fq id ver row off l (by rw[ag id (by simpa[V.under] using ad)];exact er) aq p h
 |aZ id ver start len l er aq q h ar=>exact .aZ id ver start len l (by rw[ag id (by simpa[V.under] using ad)];exact er) aq q h ar
 |map id l er aj aq=>exact .map id l (by rw[ag id (by simpa[V.under] using ad)];exact er) aj aq
 |fn f c3 bn hlen an bu=>exact .fn f c3 bn hlen (fun j x ap=>bu j x ap (wr (by simpa[V.under] using ad) j x ap))
 |agg cells bn hlen an bu=>exact .agg cells bn hlen (fun j x ap=>bu j x ap (wr (by simpa[V.under] using ad) j x ap))
 |tuple vs bn hlen an bu=>exact .tuple vs bn hlen (fun j x ap=>bu j x ap (wr (by simpa[V.under] using ad) j x ap))
def Env.out(Γ:Env)(n:Nat):Env:=⟨n,[],Γ.S⟩
theorem Good.out(aB:Good w Γ M):Good w (Γ.out w.heap.size) []:=
 ⟨rfl,fun i l B ag=>by simp[Env.out] at ag,fun i l ag=>by simp[Env.out] at ag,fun i j l l' ag=>by simp[Env.out] at ag,aB.jL,cH _,fun w' aj=>aB.jO w' (aj.mono aB.base)⟩
theorem frame(aB:Good w Γ M){f:Nat}{args:List V}{jT:Array Value}{R:V->Prop}(h:bT P f args R)(a9:ek w Γ args jT)(hu:cT 0 args=true):
 Calls P f jT w (fun e w'=>∃v bn Γ',e=.returned bn/\R v/\v.under 0=true/\bq w' Γ' v bn/\Good w' Γ' M/\Ext w Γ w' Γ'/\Below w.heap.size w w'):=by
 have zD:ek w (Γ.out w.heap.size) args jT:=⟨a9.1,fun j x ad=>bq.move (n:=0) (Γ:=Γ) (w:=w) (Γ':=Γ.out w.heap.size) (w':=w) (fun b o ak=>⟨ak,rfl⟩) (fun i hi=>absurd hi (e8 i)) (a9.2 j x ad) (wr hu j x ad)⟩;refine(h.2 w (Γ.out w.heap.size) jT aB.out zD).mono ?_;rintro e w' ⟨v,bn,Γ0,ah,he,⟨fI,a7,aq⟩,f0,M8,tR⟩;subst a7;have sG:Below w.heap.size w w':=tR.below;have dj:∀b q,b<w.heap.size->Γ0.S b q->Γ.S b q:=fun b q aj ak=>tR.r9 b q aj ak;let Γ':Env:=⟨Γ.h8,Γ.c0,Γ0.S⟩
 have i2:Ext w Γ w' Γ':=⟨fun b q ak=>tR.s b q ak,fun i l ag=>⟨l,ag,cH _,fun _=>rfl,fun _=>rfl⟩,rfl,sG.mono aB.base,fun b q aj ak=>dj b q (Nat.lt_of_lt_of_le aj aB.base) ak⟩;refine⟨v,bn,Γ',he,fI,aq,bq.move (n:=0) (Γ:=Γ0) (w:=w') (Γ':=Γ') (w':=w') (fun b q ak=>⟨ak,rfl⟩) (fun i hi=>absurd hi (e8 i)) f0 aq,?_,i2,sG⟩;refine⟨aB.len,fun i l B ag bU=>(aB.eL i l B ag bU).fN i2 (fun aq=>sG.block _ (aB.m7 ag aq)) (fun aq q ak=>dj _ q (aB.m7 ag aq) ak),aB.cz,aB.inj,M8.jL,kb aB.base sG.size,aB.yH i2⟩
theorem bT.call{f:Nat}{args:List V}{R:V->Prop}(h:bT P f args R)(hu:cT 0 args=true){K:V->Mem->Prop}(ao:∀v,R v->v.under 0=true->K v M):b9 P f args M K:=
 ⟨h.1,fun _ _ _ aB a9=>(frame aB h a9 hu).mono fun _ _ ⟨v,bn,Γ',he,fI,aq,f0,pk,i2,_⟩=>⟨v,bn,Γ',M,he,ao v fI aq,f0,pk,i2⟩⟩
def Env.jl(Γ:Env)(w:World)(n:Nat):Env:=
 ⟨Γ.h8,Γ.c0.take n,fun b q=>Γ.S b q∨(∃i l,n<=i/\Γ.c0[i]? =some l/\l.live=true/\l.b=b/\∃v,w.cell? ⟨b,q,none⟩=some v)⟩
theorem tG{n:Nat}{x:V}{bj:Value}(h:bq w Γ x bj)(ad:x.under n=true):bq w (Γ.jl w n) x bj:=
 h.move (n:=n) (Γ':=Γ.jl w n) (w':=w) (fun b q ak=>⟨Or.inl ak,rfl⟩) (fun i hi=>by simp only[Env.jl];exact hA hi) ad
theorem TN{n:Nat}{x:V}{bj:Value}(h:bq w Γ x bj)(ad:x.ku=true):bq w (Γ.jl w n) x bj:=
 h.ED (Γ':=Γ.jl w n) (w':=w) (fun b q ak=>⟨Or.inl ak,rfl⟩) ad
theorem Em{f:V->Option V}:∀{xs bH:List V},jI f xs=some bH->xs.length=bH.length/\∀(j:Nat)(y:V),bH[j]? =some y->∃x,xs[j]? =some x/\f x=some y
 |[],bH,h=>by
  simp only[jI,aW] at h;subst h;exact⟨rfl,fun j y aE=>by simp at aE⟩
 |x::xs,bH,h=>by
  simp only[jI] at h;split at h
  . rename_i y nk aa af
    simp only[aW] at h;subst h;obtain⟨ag,aB⟩:=Em af;refine⟨by simp[ag],fun j z a_=>?_⟩;cases j with
    |zero=>simp at a_;subst a_;exact⟨x,rfl,aa⟩
    |succ j=>
     obtain⟨dh,az,bh⟩:=aB j z (by simpa using a_);exact⟨dh,by simpa using az,bh⟩
  . cases h
theorem TJ(aB:Good w Γ M){n:Nat}:∀(k:Nat){x y:V}{bj:Value},bq w Γ x bj->eY M n k x=some y->bq w (Γ.jl w n) y bj:=by
 intro k;induction k with
 |zero=>
  intro x y bj h aD;simp only[eY] at aD;obtain⟨hu,rfl⟩:=fg aD;exact tG h hu
 |succ k bu=>
  intro x y bj h aD;have aDE:∀{z:V},(bif z.under n then some z else none)=some y->bq w Γ z bj->bq w (Γ.jl w n) y bj:=fun{z} a_ an=>by
   obtain⟨hu,rfl⟩:=fg a_;exact tG an hu
  have N8:∀{xs bH:List V}{bn:Array Value},jI (eY M n k) xs=some bH->bn.size=xs.length->(∀(j:Nat)(x:V),xs[j]? =some x->bq w Γ x (bn.getD j Go.undef))->bn.size=bH.length/\∀(j:Nat)(x:V),bH[j]? =some x->bq w (Γ.jl w n) x (bn.getD j Go.undef):=fun{xs bH bn} hm ag an=>by
   obtain⟨aa,af⟩:=Em hm;refine⟨by omega,fun j y aE=>?_⟩;obtain⟨x,ad,hr⟩:=af j y aE;exact bu (an j x ad) hr
  cases x
  case ptr id off=>
   simp only[eY] at aD;cases aw:decide (id<n) with
   |true=>
    simp only[aw,cond_true,aW] at aD;subst aD;exact tG h (by simpa[V.under] using aw)
   |false=>
    simp only[aw,cond_false] at aD;have ba:n<=id:=by simpa using aw
    split at aD
    . rename_i cells a7
      split at aD
      . rename_i cs hm
        obtain⟨ar,rfl⟩:=fg aD;simp only[cc,decide_eq_true_eq] at ar;cases h with
        |ptr _ _ l ag aj aq=>
         obtain⟨aa,_,af,c,T,az,bh⟩:=aB.eL id l _ ag a7;obtain⟨aT,a2⟩:=Em hm;have dO:∀j,j<cs.length->w.cell? ⟨l.b,off+j,none⟩=some (c.getD (off+j) Go.undef):=fun j ap=>by
          rw[kB az];exact jV (by rw[bh.1];simp at aT;omega)
         have dj:∀j,j<cs.length->(Γ.jl w n).S l.b (off+j):=fun j ap=>.inr ⟨id,l,ba,ag,aq,rfl,_,dO j ap⟩;have fI:∀(j:Nat)(y:V),cs[j]? =some y->bq w (Γ.jl w n) y (c.getD (off+j) Go.undef):=fun j y aE=>by
          obtain⟨x,ad,hr⟩:=a2 j y aE;rw[kW] at ad;exact bu (bh.2 _ _ ad) hr
         split
         . exact .c7 _ l.b 0 (fun j=>c.getD (0+j) Go.undef) (by simp) dj (fun j ap=>by simp only[lh,dO j ap,az]) (uX ar.1) fI
         . exact .gA cs l.b off (fun j=>c.getD (off+j) Go.undef) dj dO (uX ar.1) fI
      . cases aD
    . cases aD
  case aZ id ver start len=>
   simp only[eY] at aD;cases aw:decide (id<n) with
   |true=>
    simp only[aw,cond_true,aW] at aD;subst aD;exact tG h (by simpa[V.under] using aw)
   |false=>
    simp only[aw,cond_false] at aD;have ba:n<=id:=by simpa using aw
    split at aD
    . rename_i z rows hX fz a7
      obtain⟨ar,rfl⟩:=fg aD;simp only[cc,beq_iff_eq,decide_eq_true_eq] at ar;cases h with
      |aZ _ _ _ _ l ag jE _ eA nB=>
       obtain⟨aa,a8,af,az,bh,bC,ca,dY,cp⟩:=aB.eL id l _ ag a7;have hlen:((rows.drop start).take len).length=len:=by simp;omega
       rcases eA (by rw[af,ar.1]) with⟨_,rfl,rfl⟩|⟨eh,f7,of,ie,rfl,i5,hs,gJ⟩
       . rw[List.take_zero]
         exact .iO _ (.inr rfl)
       . obtain⟨dj,c,T,cp,eU,fy⟩:=cp eh
         have dO:∀i j,i<len->j<l.sz->w.cell? ⟨l.b,of+(i*l.sz+j),none⟩=some (c.getD ((start+i)*l.sz+j) Go.undef):=fun i j hi ap=>by
          rw[gJ (by omega),kB cp,iv,kX];refine jV ?_;have:=uC (n:=l.cap) (i:=start+i) (by omega) ap;rw[iv] at this;omega
         have gx:∀i r,((rows.drop start).take len)[i]? =some r->i<len/\rows[start+i]? =some r:=fun i r an=>by
          have hi:i<len:=by rw[<-hlen];exact(bo.1 an).1
          rw[hA hi,kW] at an;exact⟨hi,an⟩
         have:=bq.slice (w:=w) (Γ:=Γ.jl w n) ((rows.drop start).take len) .cx l.b of l.sz ie (fun i j=>c.getD ((start+i)*l.sz+j) Go.undef) (by simp) (by simp) (by rw[hlen];omega)
          (fun i r an=>ca _ _ (gx i r an).2)
          (fun i j hi ap=>.inr ⟨id,l,ba,ag,eh,rfl,_,dO i j (by rw[<-hlen];exact hi) ap⟩)
          (fun i j hi ap=>dO i j (by rw[<-hlen];exact hi) ap)
          (fun i r j x an ad=>dY _ _ _ _ (gx i r an).2 ad)
          (fun i r j x an ad=>TN (fy _ _ _ _ (gx i r an).2 ad) (dY _ _ _ _ (gx i r an).2 ad));rw[hlen] at this;exact this
    . rename_i cells hX a7
      cases ar:hX==ver&&decide (start+len<=cells.length) with
      |false=>simp[ar] at aD
      |true=>
       simp only[ar,cond_true] at aD;simp only[cc,beq_iff_eq,decide_eq_true_eq] at ar;split at aD
       . rename_i cs hm
         obtain⟨Nw,rfl⟩:=fg aD;obtain⟨aT,a2⟩:=Em hm;have hlen:cs.length=len:=by rw[<-aT];simp;omega
         cases h with
         |aZ _ _ _ _ l ag jE _ eA nB=>
          obtain⟨aa,a8,af,bh,bC,cp⟩:=aB.eL id l _ ag a7;rcases eA (by rw[af,ar.1]) with⟨_,rfl,rfl⟩|⟨eh,f7,of,ie,rfl,i5,hs,gJ⟩
          . have:cs=[]:=List.length_eq_zero_iff.1 hlen
            subst this;exact .iO _ (.inr rfl)
          . obtain⟨dj,c,T,cp,eU,fy⟩:=cp eh
            have dO:∀i,i<len->w.cell? ⟨l.b,of+i,none⟩=some (c.getD (start+i) Go.undef):=fun i hi=>by
             rw[gJ (by omega),a8,kY,kB cp];exact jV (by omega)
            have OI:∀(i:Nat)(r:List V),(cs.map fun x=>[x])[i]? =some r->∃x,cs[i]? =some x/\r=[x]:=fun i r an=>by
             rw[gX,dK] at an;obtain⟨x,ad,rfl⟩:=an;exact⟨x,ad,rfl⟩
            have Rp:∀(r:List V)(x y:V)(j:Nat),r=[x]->r[j]? =some y->j=0/\y=x:=fun r x y j an aE=>by
             subst an;have ap:j=0:=by
              have:=(bo.1 aE).1;simp at this;omega
             subst ap;simp only[ji,aW] at aE;exact⟨rfl,aE.symm⟩
            have:=bq.slice (w:=w) (Γ:=Γ.jl w n) (cs.map fun x=>[x]) .cx l.b of 1 ie (fun i _=>c.getD (start+i) Go.undef) (by simp) (by simp) (by simp[hlen];omega)
             (fun i r an=>by obtain⟨x,_,rfl⟩:=OI i r an;rfl)
             (fun i j hi ap=>by
               have zP:j=0:=by omega
               subst zP;rw[kY,iT];exact .inr ⟨id,l,ba,ag,eh,rfl,_,dO i (by simpa[hlen] using hi)⟩)
             (fun i j hi ap=>by
               have zP:j=0:=by omega
               subst zP;rw[kY,iT];exact dO i (by simpa[hlen] using hi))
             (fun i r j x an ad=>by
               obtain⟨z,a_,oj⟩:=OI i r an;obtain⟨rfl,rfl⟩:=Rp r z x j oj ad;exact uX Nw _ _ a_)
             (fun i r j x an ad=>by
               obtain⟨z,a_,oj⟩:=OI i r an;obtain⟨rfl,rfl⟩:=Rp r z x j oj ad;obtain⟨u,hu,mD⟩:=a2 i x a_;have hi:i<len:=by rw[<-hlen];exact(bo.1 a_).1
               rw[hA hi,kW] at hu;exact bu (fy _ _ hu) mD);rw[eu,hlen] at this;exact this
       . cases aD
    . cases aD
  case fn f c3=>
   simp only[eY] at aD;split at aD
   . rename_i cs hm
     simp only[aW] at aD;subst aD;cases h with
     |fn _ _ bn ag an=>
      obtain⟨dx,dm⟩:=N8 hm ag an;cases ay:hC cs with
      |true=>exact .dF f cs bn dx (uX ay) dm
      |false=>exact .fn f cs bn dx dm
   . cases aD
  case agg cells=>
   simp only[eY,dK] at aD;obtain⟨cs,hm,rfl⟩:=aD;cases h with
   |agg _ bn ag an=>
    obtain⟨dx,dm⟩:=N8 hm ag an;exact .agg cs bn dx dm
  case tuple vs=>
   simp only[eY,dK] at aD;obtain⟨cs,hm,rfl⟩:=aD;cases h with
   |tuple _ bn ag an=>
    obtain⟨dx,dm⟩:=N8 hm ag an;exact .tuple cs bn dx dm
  all_goals exact aDE (by simpa only[eY] using aD) h
end
end Go.aL
namespace Go.aL
open Go.RowKit (Below)
theorem aOL{x:V}(h:x.qy=true){n:Nat}:x.under n=true:=by
 have one:∀{y:V},y.vY=true->y.under n=true:=fun{y} aE=>by cases y<;>first|rfl|cases aE
 have all:∀(xs:List V),xs.all V.vY=true->cT n xs=true:=fun xs=>by
  induction xs with
  |nil=>intro _;rfl
  |cons y bH bu=>intro h;simp only[List.all_cons,cc] at h;simp only[cT,one h.1,bu h.2,eQ]
 cases x with
 |agg cells=>exact all cells h
 |_=>exact one h
theorem X0{n:Nat}:∀{es:List (V×V)},ni n es=true->∀(i:Nat)(cB:V×V),es[i]? =some cB->cB.2.under n=true
 |[],_,i,cB,h=>by simp at h
 |(k,v)::es,h,i,cB,hi=>by
  simp only[ni,cc] at h;cases i with
  |zero=>simp at hi;subst hi;exact h.1
  |succ i=>exact X0 h.2 i cB (by simpa using hi)
theorem Good.pop{w:World}{Γ:Env}{M:Mem}(aB:Good w Γ M){n:Nat}(aK:n<=M.length)(hm:cq n (M.take n)=true):Good w (Γ.jl w n) (M.take n):=by
 have aJx:∀(N:Mem),cq n N=true->∀(i:Nat)(B:a1),N[i]? =some B->B.under n=true:=by
  intro N;induction N with
  |nil=>intro _ i B h;simp at h
  |cons h8 N bu=>
   intro h i B bU;simp only[cq,cc] at h;cases i with
   |zero=>simp at bU;exact bU▸h.1
   |succ i=>exact bu h.2 i B (by simpa using bU)
 have HT:∀i l,(Γ.jl w n).c0[i]? =some l->i<n/\Γ.c0[i]? =some l:=fun i l ag=>by
  simp only[Env.jl] at ag;have hi:i<n:=by
   have:=(bo.1 ag).1;simp at this;omega
  rw[hA hi] at ag;exact⟨hi,ag⟩
 have CZ:∀i l,i<n->Γ.c0[i]? =some l->l.live=true->∀q,(Γ.jl w n).S l.b q->Γ.S l.b q:=fun i l hi ag aq q ak=>by
  rcases ak with ak|⟨j,m,ap,gI,Nn,aj,_⟩
  . exact ak
  . have:=aB.inj i j l m ag gI aq Nn aj.symm
    omega
 refine⟨by simp[Env.jl,aB.len],fun i l B ag bU=>?_,fun i l ag=>aB.cz i l (HT i l ag).2,fun i j l l' ag er aq rN aj=>aB.inj i j l l' (HT i l ag).2 (HT j l' er).2 aq rN aj,fun b q ak=>?_,aB.base,aB.jO⟩
 . obtain⟨hi,ag⟩:=HT i l ag
   have ih:M[i]? =some B:=by rw[hA hi] at bU;exact bU
   have hu:=aJx _ hm i B bU;have aj:=aB.eL i l B ag ih;cases B with
   |box cells=>
    obtain⟨aa,aq,af,c,T,az,bh⟩:=aj;exact⟨aa,aq,fun q aG=>af q (CZ i l hi ag aq q aG),c,T,az,bh.1,fun j x ad=>tG (bh.2 j x ad) (wr (by simpa[a1.under] using hu) j x ad)⟩
   |arr sz rows ver fz=>
    obtain⟨aa,a8,af,az,bh,bC,ca,dY,cp⟩:=aj;refine⟨aa,a8,af,az,bh,bC,ca,dY,fun aq=>?_⟩;obtain⟨dj,c,T,cp,eU,fy⟩:=cp aq;exact⟨fun q=>⟨fun aG=>(dj q).1 (CZ i l hi ag aq q aG),fun aG=>.inl ((dj q).2 aG)⟩,c,T,cp,eU,fun i r j x an ad=>TN (fy i r j x an ad) (dY i r j x an ad)⟩
   |map es=>
    obtain⟨aa,aq,af,c9,clock,az,bh,bC,ca⟩:=aj;exact⟨aa,aq,fun q aG=>af q (CZ i l hi ag aq q aG),c9,clock,az,bh,fun i e cB dx dm=>by
     obtain⟨iN,f8,iB,r2,lt⟩:=bC i e cB dx dm;exact⟨iN,f8,tG iB (aOL iN),tG r2 (X0 (by simpa[a1.under] using hu) i cB dm),lt⟩,ca⟩
   |vec cells ver=>
    obtain⟨aa,a8,af,bh,bC,cp⟩:=aj;refine⟨aa,a8,af,bh,bC,fun aq=>?_⟩;obtain⟨dj,c,T,cp,eU,fy⟩:=cp aq;exact⟨fun q aG=>dj q (CZ i l hi ag aq q aG),c,T,cp,eU,fun j x ad=>tG (fy j x ad) (wr (by simpa[a1.under] using hu) j x ad)⟩
   |iter mid m seen=>
    obtain⟨aa,aq,af,ja,az,bh,bC,ca⟩:=aj;have gI:mid<n:=by simpa[a1.under] using hu
    exact⟨aa,aq,fun q aG=>af q (CZ i l hi ag aq q aG),ja,by simp only[Env.jl];rw[hA gI];exact az,bh,bC,ca⟩
   |dead=>exact aj
 . rcases ak with ak|⟨i,l,hi,ag,aq,aj,ar⟩
   . exact aB.jL b q ak
   . exact ar
theorem Ext.pop{w0 w:World}{Γ0 Γ:Env}{M:Mem}(aB:Good w Γ M)(he:Ext w0 Γ0 w Γ){n:Nat}(a8:Γ0.c0.length<=n):Ext w0 Γ0 w (Γ.jl w n) where
 s b q ak:=⟨.inl (he.s b q ak).1,(he.s b q ak).2⟩
 c0 i l ag:=by
  obtain⟨l',aa,af⟩:=he.c0 i l ag;have hi:i<n:=Nat.lt_of_lt_of_le (bo.1 ag).1 a8;exact⟨l',by simp only[Env.jl];rw[hA hi];exact aa,af⟩
 cz:=he.cz
 below:=he.below
 r9 b q aj ak:=by
  rcases ak with ak|⟨i,l,hi,ag,aq,mB,_⟩
  . exact he.r9 b q aj ak
  . have:=aB.cz i l ag
    rw[he.cz] at this;omega
structure cF(w0:World)(Γ0:Env)(n:Nat)(w:World)(Γ:Env)(s:aI)(M:Mem)(a:Act):Prop where
 gd:Good w Γ M
 gV:ep w Γ s a.tmps
 size:a.tmps.size=n
 defers:a.defers=[]
 ext:Ext w0 Γ0 w Γ
section
variable{P:Program}{w0 w:World}{Γ0 Γ:Env}{M:Mem}{s:aI}{a:Act}{n:Nat}
theorem mi(s:aI)(u:Nat)(x:V)(t:Nat):aX (eP s u x) t=if t=u then x else aX s t:=by
 simp only[eP,aX];by_cases h:t=u
 . subst h;simp
 . have:(u==t)=false:=by simpa using fun e=>h e.symm
   simp[this,h]
theorem aPd{x:V}{bj:Value}(ak:ep w Γ s a.tmps)(ad:bq w Γ x bj){dst:Option Nat}(aw:∀d,dst=some d->d<a.tmps.size):ep w Γ (bA s dst x) (a.put dst bj).tmps:=by
 cases dst with
 |none=>exact ak
 |some d=>
  intro t;have aw:=aw d rfl;simp only[bA,mi,Act.put];by_cases h:t=d
  . subst h
    simp only[if_true];simpa[iq,aw] using ad
  . simp only[h,if_false]
    have:=ak t;simpa[iq,Array.getElem?_setIfInBounds_ne (gq h)] using this
theorem Xh{u:Nat}{x:V}(ak:ep w Γ s a.tmps)(h:aX s u=x):ep w Γ (eP s u x) a.tmps:=by
 intro t;rw[mi];split
 . rename_i e;subst e;rw[<-h];exact ak t
 . exact ak t
theorem cF.put(h:cF w0 Γ0 n w Γ s M a){x:V}{bj:Value}(ad:bq w Γ x bj){dst:Option Nat}(aw:∀d,dst=some d->d<n):cF w0 Γ0 n w Γ (bA s dst x) M (a.put dst bj):=
 ⟨h.gd,aPd h.gV ad (fun d e=>by rw[h.size];exact aw d e),by cases dst<;>simp[Act.put,h.size],by cases dst<;>simp[Act.put,h.defers],h.ext⟩
theorem cF.qB(h:cF w0 Γ0 n w Γ s M a){w':World}{Γ':Env}{ah:Mem}(aB:Good w' Γ' ah)(he:Ext w Γ w' Γ'):cF w0 Γ0 n w' Γ' s ah a:=
 ⟨aB,h.gV.ext he,h.size,h.defers,h.ext.trans he⟩
theorem cF.norm(h:cF w0 Γ0 n w Γ s M a)(live:List Nat):cF w0 Γ0 n w Γ (g7 s live) M a:=
 ⟨h.gd,fun t=>by
   have:∀l:List Nat,bq w Γ (aX (g7 s l) t) (a.tmps.getD t Go.undef):=by
    intro l;induction l with
    |nil=>exact .undef _
    |cons u l bu=>
     simp only[g7,aX];by_cases hu:u=t
     . subst hu;simpa using h.gV u
     . have:(u==t)=false:=by simpa using hu
       simpa[this] using bu
   exact this live,h.size,h.defers,h.ext⟩
theorem WP:bq w Γ (.tuple []) Go.undef:=.tuple [] #[] rfl (fun j x ad=>by simp at ad)
theorem Yq{aF:Array Oper}{j d:Nat}(aw:Bq n aF j=some d)(aK:a.tmps.size=n){b:Bool}(h:a.tmps.getD d Go.undef=.bool b):yielded aF a.tmps j=some b:=by
 unfold Bq at aw;split at aw
 . rename_i o aA
   split at aw
   . rename_i hF vh
     split at aw
     . rename_i bx
       simp only[aW] at aw;subst aw;have Nl:hF<a.tmps.size:=by rw[aK];assumption
       have hH:a.tmps[hF]? =some (.bool b):=by rw[jV Nl,h]
       simp[yielded,aA,vh,hH]
     . cases aw
   . cases aw
 . cases aw
theorem Yr{aF:Array Oper}{j d:Nat}(aw:Bq n aF j=some d)(aK:a.tmps.size=n)(h:a.tmps.getD d Go.undef=.tuple #[]):yielded aF a.tmps j=none:=by
 unfold Bq at aw;split at aw
 . rename_i o aA
   split at aw
   . rename_i hF vh
     split at aw
     . rename_i bx
       simp only[aW] at aw;subst aw;have Nl:hF<a.tmps.size:=by rw[aK];assumption
       have hH:a.tmps[hF]? =some (.tuple #[]):=by rw[jV Nl,h]
       simp[yielded,aA,vh,hH]
     . cases aw
   . cases aw
 . cases aw
theorem OF{mu:List Nat}{aF:Array Oper}{i:Nat}{o:Oper}{co:bw}(h:s6 P n mu aF i o=some co):
 ∃op g,gU P (mu.contains i) (mu.contains (i+5000)) o.type o.op=some op/\yt n aF o.guard=some g/\co=⟨o.dst,op,Ec P o.type,g⟩/\∀d,o.dst=some d->d<n:=by
 unfold s6 at h;split at h
 . rename_i op g aa af
   split at h
   . rename_i aw
     simp only[aW] at h;exact⟨op,g,aa,af,by rw[<-h,aw],fun d e=>by rw[aw] at e;cases e⟩
   . rename_i d aw
     split at h
     . rename_i bx
       simp only[aW] at h;exact⟨op,g,aa,af,by rw[<-h,aw],fun hF e=>by rw[aw] at e;cases e;exact bx⟩
     . cases h
 . cases h
theorem WG{dst:Option Nat}{bz:Bool}{v:V}{K:aI->Prop}(h:kN s dst bz v K):K (bA s dst v):=by
 unfold kN at h;cases bz with
 |false=>exact h
 |true=>
  simp only[tn] at h;split at h
  . rename_i b aj
    simp only[aW] at aj;subst aj;exact h
  . exact h.elim
theorem ek.append{xs bH:List V}{cs bK:Array Value}(aa:ek w Γ xs cs)(af:ek w Γ bH bK):ek w Γ (xs++bH) (cs++bK):=by
 refine⟨by simp[aa.1,af.1],fun j x ad=>?_⟩;by_cases ap:j<xs.length
 . rw[gp ap] at ad
   have:=aa.2 j x ad;have po:j<cs.size:=by rw[aa.1];exact ap
   simpa[iq,Array.getElem?_append,po] using this
 . rw[j_ (by omega)] at ad
   have:=af.2 _ x ad;have po:¬j<cs.size:=by rw[aa.1];exact ap
   simpa[iq,Array.getElem?_append,po,aa.1,ap] using this
theorem Ri{f:Nat}(aD:vd P f=true)(args:Array Value)(w':World):(callFunc f args).run P w'=.ok (.enter f args) w':=by
 unfold vd at aD;split at aD
 . rename_i fn M5
   simp only[cc,bne_iff_ne,ne_eq] at aD;have aj:fn.body≠none:=by
    intro zE;simp[zE] at aD
   simp[callFunc,M5,aD.2,aj]
 . cases aD
theorem aCU{o:Oper}{f:Nat}{args:Array Operand}{iP:Array TypeId}(aA:o.op=.call ⟨.value (.func f),args,iP⟩)(aD:vd P f=true)(w':World):(execOp a.eval o).run P w'=.ok (.enter f (args.map a.eval)) w':=by
 have e:a.eval (.func f)=.func (.func f) #[] #[]:=rfl;simp[execOp,aA,resolve,e,Deferred.ofValue,invoke,Ri aD]
theorem Rm{o:Oper}{jB:Operand}{f:Nat}{c3:Array Value}{args:Array Operand}{iP:Array TypeId}(aA:o.op=.call ⟨.value jB,args,iP⟩)(aq:a.eval jB=.func (.func f) #[] c3) (aD:vd P f=true) (w':World):
 (execOp a.eval o).run P w'=.ok (.enter f (args.map a.eval++c3)) w':=by
 simp[execOp,aA,resolve,aq,Deferred.ofValue,invoke,Ri aD]
theorem aOd{mu ld:Bool}{nh:TypeId}{op:Op}{y:aU}(h:gU P mu ld nh op=some (.rW y)):∃x,op=.next x false/\b4 x=some y:=by
 cases op
 case next x b=>
  cases b<;>simp only[gU,dK,reduceCtorEq] at h;obtain⟨hh,aE,e⟩:=h;cases e;exact⟨x,rfl,aE⟩
 case call c=>
  exfalso;obtain⟨callee,args,iP⟩:=c;cases callee with
  |builtin b=>
   simp only[gU,wb] at h
   (repeat' (split at h))<;>first
     |contradiction
     |(cases h;done)
     |(simp only[dK] at h;obtain⟨_,_,e⟩:=h;cases e;done)
     |(obtain⟨_,_,_,_,e⟩:=hD h;cases e;done)
  |value f=>
   cases f<;>simp only[gU] at h
   case func f=>simp only[dK] at h;obtain⟨_,_,e⟩:=h;cases e
   all_goals (obtain⟨_,_,_,_,e⟩:=hD h;cases e)
  |invoke r m=>simp[gU] at h
 all_goals
  exfalso;simp only[gU,reduceCtorEq] at h<;>(repeat' (split at h))<;>first
   |contradiction
   |(cases h;done)
   |(simp only[dK] at h;obtain⟨_,_,e⟩:=h;cases e;done)
   |(simp only[aW] at h;cases h;done)
   |(obtain⟨_,e⟩:=fg h;cases e;done)
   |(obtain⟨_,_,_,_,e⟩:=hD h;cases e;done)
theorem aOe{mu ld:Bool}{nh:TypeId}{op:Op}{n:Bool}{qT EV:aU}(h:gU P mu ld nh op=some (.oG n qT EV)):
 ∃Bh t x y hy,op=.binOp Bh t x y hy/\AJ P t=true/\b4 x=some qT/\b4 y=some EV/\(Bh=.eql/\n=false∨Bh=.neq/\n=true):=by
 cases op
 case binOp Bh t x y hy=>
  simp only[gU] at h;split at h
  . rename_i aj
    simp only[cc] at aj;obtain⟨p,q,ay,aG,e⟩:=hD h;cases e;exact⟨_,t,x,y,hy,rfl,aj.2,ay,aG,.inl ⟨rfl,rfl⟩⟩
  . rename_i aj
    simp only[cc] at aj;obtain⟨p,q,ay,aG,e⟩:=hD h;cases e;exact⟨_,t,x,y,hy,rfl,aj.2,ay,aG,.inr ⟨rfl,rfl⟩⟩
  . obtain⟨p,q,ay,aG,e⟩:=hD h
    cases e
 case next x b=>
  exfalso;cases b<;>simp only[gU,dK,reduceCtorEq] at h;obtain⟨_,_,e⟩:=h;cases e
 case call c=>
  exfalso;obtain⟨callee,args,iP⟩:=c;cases callee with
  |builtin b=>
   simp only[gU,wb] at h
   (repeat' (split at h))<;>first
     |contradiction
     |(cases h;done)
     |(simp only[dK] at h;obtain⟨_,_,e⟩:=h;cases e;done)
     |(obtain⟨_,_,_,_,e⟩:=hD h;cases e;done)
  |value f=>
   cases f<;>simp only[gU] at h
   case func f=>simp only[dK] at h;obtain⟨_,_,e⟩:=h;cases e
   all_goals (obtain⟨_,_,_,_,e⟩:=hD h;cases e)
  |invoke r m=>simp[gU] at h
 all_goals
  exfalso;simp only[gU,reduceCtorEq] at h<;>(repeat' (split at h))<;>first
   |contradiction
   |(cases h;done)
   |(simp only[dK] at h;obtain⟨_,_,e⟩:=h;cases e;done)
   |(simp only[aW] at h;cases h;done)
   |(obtain⟨_,e⟩:=fg h;cases e;done)
   |(obtain⟨_,_,_,_,e⟩:=hD h;cases e;done)
theorem aOc{mu ld:Bool}{nh:TypeId}{op:Op}{co:dM}(h:gU P mu ld nh op=some co)(ar:co.jH=true):
 (∃f args iP bH,op=.call ⟨.value (.func f),args,iP⟩/\sX args.toList=some bH/\co=.call f bH)∨(∃jB args iP y bH,op=.call ⟨.value jB,args,iP⟩/\b4 jB=some y/\sX args.toList=some bH/\co=.fX y bH):=by
 have HI:∀(b:Builtin)(xs:List Operand)(ip:List TypeId),wb P b xs ip mu=some co->False:=fun b xs ip aj=>by
  unfold wb at aj;split at aj
  . split at aj
    . simp only[dK] at aj;obtain⟨y,_,rfl⟩:=aj;cases ar
    . simp only[dK] at aj;obtain⟨y,_,rfl⟩:=aj;cases ar
    . simp only[dK] at aj;obtain⟨y,_,rfl⟩:=aj;cases ar
    . simp only[aW] at aj;subst aj;cases ar
    . split at aj
      . simp only[aW] at aj;subst aj;cases ar
      . cases aj
    . cases aj
  . split at aj
    . split at aj
      . split at aj
        . simp only[aW] at aj;subst aj;cases ar
        . cases aj
      . cases aj
    . cases aj
  . split at aj
    . split at aj
      . split at aj
        . simp only[aW] at aj;subst aj;cases ar
        . cases aj
      . cases aj
    . cases aj
  . obtain⟨p,q,_,_,rfl⟩:=hD aj;cases ar
  . obtain⟨p,q,_,_,rfl⟩:=hD aj;cases ar
  . cases aj
 cases op
 case call c=>
  obtain⟨callee,args,iP⟩:=c;cases callee with
  |builtin b=>exact(HI _ _ _ (by simpa only[gU] using h)).elim
  |value f=>
   cases f with
   |func f=>
    simp only[gU,dK] at h;obtain⟨bH,aE,rfl⟩:=h;exact .inl ⟨f,args,iP,bH,rfl,aE,rfl⟩
   |tmp t=>
    simp only[gU] at h;obtain⟨p,q,ay,aG,rfl⟩:=hD h;exact .inr ⟨_,args,iP,p,q,rfl,ay,aG,rfl⟩
   |const c=>
    simp only[gU] at h;obtain⟨p,q,ay,aG,rfl⟩:=hD h;exact .inr ⟨_,args,iP,p,q,rfl,ay,aG,rfl⟩
   |global g=>
    simp only[gU] at h;obtain⟨p,q,ay,aG,rfl⟩:=hD h;exact .inr ⟨_,args,iP,p,q,rfl,ay,aG,rfl⟩
  |invoke r m=>simp[gU] at h
 all_goals
  exfalso;simp only[gU,reduceCtorEq] at h<;>(repeat' (split at h))<;>first
   |contradiction
   |(cases h;done)
   |(simp only[dK] at h;obtain⟨_,_,rfl⟩:=h;cases ar;done)
   |(simp only[aW] at h;subst h;cases ar;done)
   |(obtain⟨_,rfl⟩:=fg h;cases ar;done)
   |(obtain⟨_,_,_,_,rfl⟩:=hD h;cases ar;done)
end
end Go.aL
namespace Go.aL
open Go.RowKit (Below)
section
variable{P:Program}{w0 w:World}{Γ0 Γ:Env}{M:Mem}{s:aI}{a:Act}{n:Nat}
theorem aNi(ak:ep w Γ s a.tmps){o:Oper}{op:BinOp}{t hy:TypeId}{x y:Operand}{dh hh:aU}{neg:Bool}(aA:o.op=.binOp op t x y hy)(ad:b4 x=some dh)(aE:b4 y=some hh)
 (aV:AJ P t=true)(hb:op=.eql/\neg=false∨op=.neq/\neg=true)(aD:xj (aP s dh) (aP s hh)=true):∃b:Bool,(execOp a.eval o).run P w=.ok (.value (.bool b)) w:=by
 have rx:=d5 ak ad;have hV:=d5 ak aE;unfold AJ at aV;split at aV
 . rename_i e hu
   split at aV
   . rename_i n aK
     have qn:n≠0:=by simpa using Nat.pos_iff_ne_zero.1 (of_decide_eq_true aV)
     unfold xj at aD;split at aD
     . rename_i cs bK M1 M2
       rw[M1] at rx;rw[M2] at hV;generalize d7:a.eval x=bj at rx;generalize MW:a.eval y=df at hV;have plain:∀(b q:Nat)(u:Value),lh w b q=(some u,some (0,0))->∃c T,w.heap[b]? =some (.cells c T (0,0)):=fun b q u h=>by
        have af:=congrArg Prod.snd h;simp only[lh] at af;split at af
        . rename_i c T f cn
          simp only[aW] at af;subst af;exact⟨c,T,cn⟩
        . cases af
       cases rx with
       |c7 _ c2 mM aRb v2 s1 eX _ _=>
        cases hV with
        |c7 _ dw hQ aRc v4 dq g1 _ _=>
         obtain⟨d1,abc,bI⟩:=plain _ _ _ (eX 0 v2);obtain⟨d2,abd,ce⟩:=plain _ _ _ (g1 0 v4);have nE:∃b:Bool,(sameAddr ⟨c2,mM,none⟩ ⟨dw,hQ,none⟩).run P w=.ok b w:=by
          by_cases zC:(⟨c2,mM,none⟩:Addr)=⟨dw,hQ,none⟩
          . exact⟨true,by rw[zC];simp[run_sameAddr_same]⟩
          . exact⟨false,run_sameAddr_other w zC bI ce⟩
         obtain⟨b,nE⟩:=nE;have cw:(Op.equalIn (9999+1) t (.pointer (some ⟨c2,mM,none⟩)) (.pointer (some ⟨dw,hQ,none⟩))).run P w=.ok b w:=by
          rw[Op.equalIn];simp[et hu,g6 aK,qn,nE]
         have fJ:∀(p q:Operand),(eqGuard op t p q (.pointer (some ⟨c2,mM,none⟩)) (.pointer (some ⟨dw,hQ,none⟩))).run P w=.ok () w:=fun p q=>tK op t p q _ _ (by simp) (by simp) w;refine⟨b !=neg,?_⟩;have MN:(binOp op t (.pointer (some ⟨c2,mM,none⟩)) (.pointer (some ⟨dw,hQ,none⟩))).run P w=.ok (.bool (b !=neg)) w:=by
          rcases hb with⟨rfl,rfl⟩|⟨rfl,rfl⟩
          . show(do pure (.bool (<-Op.equal t _ _)):Sem Value).run P w=_
            simp[w6,cw]
          . show(do pure (.bool (!(<-Op.equal t _ _))):Sem Value).run P w=_
            simp[w6,cw]
         simp only[execOp,aA,Sem.run_bind,d7,MW,fJ,Result.andThen_ok,MN];simp
     . cases aD
   . cases aV
 . cases aV
theorem Yl(h:cF w0 Γ0 n w Γ s M a){o:Oper}{mu ld:Bool}{op:dM}(an:gU P mu ld o.type o.op=some op)(aw:∀d,o.dst=some d->d<n){bz:Bool}{K:aI->Mem->Prop}(hw:wpOp P false op o.dst bz s M K)
 {next:Act->World->Prop}{Q:Exit->Act->World->Prop}(ao:∀aO ah dt w' Γ',cF w0 Γ0 n w' Γ' aO ah dt->K aO ah->next dt w'):o.wp P a w next Q:=by
 have HD:=abY h.gd h.gV an;by_cases ar:op.jH=true
 . have Pn:∀(f:Nat)(args:List V)(jT:Array Value),(∀w',vd P f=true->(execOp a.eval o).run P w'=.ok (.enter f jT) w')->ek w Γ args jT->oQ P false f args M (fun v ah=>kN s o.dst bz v (fun aO=>K aO ah))->o.wp P a w next Q:=by
    intro f args jT cw f0 zF;have zF:b9 P f args M (fun v ah=>kN s o.dst bz v (fun aO=>K aO ah)):=zF;unfold Oper.wp;rw[cw w zF.1,Oper.upon_enter];refine(zF.2 w Γ jT h.gd f0).mono ?_;rintro e w' ⟨v,bn,Γ',ah,rfl,i3,aq,pk,he⟩;exact ao _ _ _ _ _ ((h.qB pk he).put aq aw) (WG i3)
   rcases aOc an ar with⟨f,args,iP,bH,hb,aE,rfl⟩|⟨jB,args,iP,y,bH,hb,aKy,aE,rfl⟩
   . have f0:=J3 h.gV aE
     have my:(args.toList.map a.eval).toArray=args.map a.eval:=Array.ext' (by simp);rw[my] at f0;exact Pn f _ _ (fun w' aD=>aCU hb aD w') f0 hw
   . have f0:=J3 h.gV aE
     have my:(args.toList.map a.eval).toArray=args.map a.eval:=Array.ext' (by simp);rw[my] at f0;have hr:=d5 h.gV aKy;have hw:mP P false (aP s y) (e_ s bH) M (fun v ah=>kN s o.dst bz v (fun aO=>K aO ah)):=hw;unfold mP at hw;split at hw
     . rename_i f c3 aq
       rw[aq] at hr;generalize d7:a.eval jB=bj at hr;cases hr with
       |dF _ _ bn ag ay jY=>exact Pn f _ _ (fun w' aD=>Rm hb d7 aD w') (f0.append ⟨ag,jY⟩) hw
     . rename_i f c3 aq
       rw[aq] at hr;generalize d7:a.eval jB=bj at hr;cases hr with
       |fn _ _ bn ag jY=>exact Pn f _ _ (fun w' aD=>Rm hb d7 aD w') (f0.append ⟨ag,jY⟩) hw
     . exact hw.elim
 . by_cases t7:∃y,op=.rW y
   . obtain⟨y,rfl⟩:=t7
     obtain⟨x,hb,aE⟩:=aOd an;have hw:sf (aP s y) M (fun v ah=>K (bA s o.dst v) ah):=hw;have ad:=d5 h.gV aE;generalize aRv:aP s y=aQl at hw ad;cases aQl with
     |ptr id off=>
      cases off with
      |succ _=>exact hw.elim
      |zero=>
      simp only[sf] at hw;cases a7:M[id]? with
      |none=>simp only[a7] at hw
      |some B=>
       cases B with
       |iter mid n seen=>
        simp only[a7] at hw;cases hm:M[mid]? with
        |none=>simp only[hm] at hw
        |some mT=>
         cases mT with
         |map es=>
          simp only[hm] at hw;obtain⟨aK,aH8,aJw⟩:=hw;generalize d7:a.eval x=bj at ad;cases ad with
          |ptr _ _ l ag aj aq=>
           unfold Oper.wp;rcases aMW (P:=P) h.gd ag a7 hm aK o.type with⟨eg,cw⟩|⟨i,cB,bn,w',Γ',qk,sP,cw,f0,pk,he⟩
           . have cw:(execOp a.eval o).run P w=.ok (.value (.tuple #[.bool false])) w:=by simp[execOp,hb,d7,cw]
             rw[cw,Oper.upon_value];exact ao _ _ _ _ _ (h.put (.tuple _ _ rfl fun j x ad=>by
              match j,ad with
              |0,ad=>simp at ad;subst ad;exact .bool false) aw) (aH8 eg)
           . have cw:(execOp a.eval o).run P w=.ok (.value bn) w':=by simp[execOp,hb,d7,cw]
             rw[cw,Oper.upon_value];exact ao _ _ _ _ _ ((h.qB pk he).put f0 aw) (aJw i cB qk sP)
         |_=>simp only[hm] at hw
       |_=>simp only[a7] at hw
     |_=>exact hw.elim
   have aQh:∀v ah,h_ P w Γ a o v ah->K (bA s o.dst v) ah->o.wp P a w next Q:=by
    rintro v ah ⟨r,w',Γ',cw,fs,pk,he⟩ i3;unfold Oper.wp;rw[cw];rcases fs with⟨bn,rfl,aq⟩|⟨rfl,rfl⟩
    . rw[Oper.upon_value]
      exact ao _ _ _ _ _ ((h.qB pk he).put aq aw) i3
    . rw[Oper.upon_skip]
      exact ao _ _ _ _ _ ((h.qB pk he).put (.undef _) aw) i3
   by_cases pu:∃n x y,op=.oG n x y
   . obtain⟨n,x,y,rfl⟩:=pu
     have hw:th n (aP s x) (aP s y) M (fun v ah=>K (bA s o.dst v) ah):=hw;unfold th at hw;cases aD:xj (aP s x) (aP s y) with
     |true=>
      rw[aD] at hw;simp only at hw;obtain⟨Bh,t,AX,EU,hy,hb,aV,ad,aE,aK⟩:=aOe an;obtain⟨b,cw⟩:=aNi h.gV hb ad aE aV aK aD;unfold Oper.wp;rw[cw,Oper.upon_value];exact ao _ _ _ _ _ (h.put (.bool b) aw) (match b with|true=>hw.1|false=>hw.2)
     |false=>
      rw[aD] at hw;simp only at hw;unfold tp at hw;split at hw
      . rename_i v ah aq
        exact aQh v ah (HD.1 rfl v ah aq) hw
      . exact hw.elim
   have Po:∀v ah,h_ P w Γ a o v ah->K (bA s o.dst v) ah->o.wp P a w next Q:=by
    rintro v ah ⟨r,w',Γ',cw,fs,pk,he⟩ i3;unfold Oper.wp;rw[cw];rcases fs with⟨bn,rfl,aq⟩|⟨rfl,rfl⟩
    . rw[Oper.upon_value]
      exact ao _ _ _ _ _ ((h.qB pk he).put aq aw) i3
    . rw[Oper.upon_skip]
      exact ao _ _ _ _ _ ((h.qB pk he).put (.undef _) aw) i3
   have gR:(match op.ht with
    |true=>tp (m_ op s M) (fun v ah=>K (bA s o.dst v) ah)
    |false=>
     match bz with
     |true=>tn (hU op s M) (fun b=>K (bA s o.dst (.bool b)) M)
     |false=>kZ (hU op s M) (fun v=>K (bA s o.dst v) M)):=by
    cases bz<;>cases op<;>first|exact hw|(exfalso;exact ar rfl)|(exfalso;exact t7 ⟨_,rfl⟩)|(exfalso;exact pu ⟨_,_,_,rfl⟩)
   cases hm:op.ht with
   |true=>
    simp only[hm] at gR;unfold tp at gR;split at gR
    . rename_i v ah aq
      exact Po v ah (HD.1 hm v ah aq) gR
    . exact gR.elim
   |false=>
    simp only[hm] at gR;cases bz with
    |true=>
     simp only at gR;unfold tn at gR;split at gR
     . rename_i b aq
       exact Po _ M (HD.2 hm _ aq).1 gR
     . exact gR.elim
    |false=>
     simp only at gR;unfold kZ at gR;split at gR
     . rename_i v aq
       exact Po _ M (HD.2 hm _ aq).1 gR
     . exact gR.elim
theorem LX{α:Type}{l:List α}{k:Nat}{x:α}{xs:List α}(h:l.drop k=x::xs):l[k]? =some x/\l.drop (k+1)=xs:=by
 have aa:=congrArg (·[0]?) h;have af:=congrArg (List.drop 1) h;exact⟨by simpa using aa,by simpa[Nat.add_comm] using af⟩
theorem Ym{aF:Array Oper}{mu:List Nat}{Q:Exit->Act->World->Prop}{K:aI->Mem->Prop}(gw:∀aO ah dt w' Γ',cF w0 Γ0 n w' Γ' aO ah dt->K aO ah->Q .normal dt w'):
 ∀(os:List Oper)(k:Nat)(bg:List bw)(s:aI)(M:Mem)(a:Act)(w:World)(Γ:Env),aF.toList.drop k=os->pP P n mu aF k os=some bg->cF w0 Γ0 n w Γ s M a->wpOps P false bg s M K->
 Go.wpOps P aF Q (List.range' k os.length) a w
 |[],k,bg,s,M,a,w,Γ,xH,fs,bl,fk=>by
  simp only[pP,aW] at fs;subst fs;exact gw s M a w Γ bl fk
 |o::os,k,bg,s,M,a,w,Γ,xH,fs,bl,fk=>by
  simp only[pP] at fs;split at fs
  . rename_i co bk aa af
    simp only[aW] at fs;subst fs;obtain⟨op,g,hb,aB,rfl,aw⟩:=OF aa;obtain⟨ao,aJI⟩:=LX xH;have i7:aF[k]? =some o:=by simpa using ao
    have bu:=fun s M a w Γ=>Ym gw os (k+1) bk s M a w Γ aJI af;have run:∀aO,cF w0 Γ0 n w Γ aO M a->wpOp P false op o.dst (Ec P o.type) aO M (fun aO ah=>wpOps P false bk aO ah K)->Region.wanted o (yielded aF a.tmps)=true->Go.wpOps P aF Q (k::List.range' (k+1) os.length) a w:=by
     intro aO ct hw t9;simp only[Go.wpOps,i7,t9,if_true];exact .inl (Yl ct hb aw hw (fun aOC ah dt w' Γ' aKg i3=>bu aOC ah dt w' Γ' aKg i3))
    have skip:∀aO,cF w0 Γ0 n w Γ aO M a->wpOps P false bk (bA aO o.dst (.tuple [])) M K->Region.wanted o (yielded aF a.tmps)=false->Go.wpOps P aF Q (k::List.range' (k+1) os.length) a w:=by
     intro aO ct hw t9;simp only[Go.wpOps,i7,t9,jh,if_false];exact bu _ _ _ _ _ (ct.put WP aw) hw
    rw[dC,List.range'_succ];cases fJ:o.guard with
    |none=>
     rw[fJ] at aB;simp only[yt,aW] at aB;subst aB;simp only[wpOps] at fk;exact run s bl fk (by simp[Region.wanted,fJ])
    |some nv=>
     obtain⟨j,gW⟩:=nv;rw[fJ] at aB;simp only[yt,dK] at aB;obtain⟨d,jo,rfl⟩:=aB;simp only[wpOps] at fk;have oq:=bl.gV d;split at fk
     . rename_i b aj
       rw[aj] at oq;have rO:=qP oq rfl;have aE:=Yq jo bl.size rO;have ou:Region.wanted o (yielded aF a.tmps)=(b==gW):=by simp[Region.wanted,fJ,aE]
       have nE:∀c,b=c->cF w0 Γ0 n w Γ (eP s d (.bool c)) M a:=fun c ar=>⟨bl.gd,Xh bl.gV (by rw[aj,ar]),bl.size,bl.defers,bl.ext⟩;cases gW with
       |true=>
        cases b with
        |true=>exact run _ (nE true rfl) fk (by rw[ou];rfl)
        |false=>exact skip _ (nE false rfl) fk (by rw[ou];rfl)
       |false=>
        cases b with
        |true=>exact skip _ (nE true rfl) fk (by rw[ou];rfl)
        |false=>exact run _ (nE false rfl) fk (by rw[ou];rfl)
     . rename_i aj
       rw[aj] at oq;have rO:a.tmps.getD d Go.undef=.tuple #[]:=by
        generalize a.tmps.getD d Go.undef=q at oq;cases oq with
        |tuple _ bn ag=>
         have:bn=#[]:=Array.size_eq_zero_iff.1 (by simpa using ag);rw[this]
       have aE:=Yr jo bl.size rO;exact skip s bl fk (by simp[Region.wanted,fJ,aE])
     . exact fk.elim
  . cases fs
end
end Go.aL
namespace Go.aL
open Go.RowKit (Below)
theorem o2{a b:Nat}:iw a b=true↔a<b:=by rw[Nat.blt_eq]
section
variable{s dq:aI}
theorem dV{x:aU}(h:∀t∈x.cQ,aX s t=aX dq t):aP s x=aP dq x:=by
 cases x with
 |tmp t=>exact h t (by simp[aU.cQ])
 |const v=>rfl
theorem zp{x:Option aU}(h:∀t∈x_ x,aX s t=aX dq t):eM s x=eM dq x:=by
 cases x with
 |none=>rfl
 |some x=>simp only[eM,dV (x:=x) h]
theorem w9:∀{xs:List aU},(∀t∈x9 xs,aX s t=aX dq t)->e_ s xs=e_ dq xs
 |[],_=>rfl
 |x::xs,h=>by
  simp only[e_,dV (x:=x) fun t aV=>h t (by simp[x9,aV]),w9 (xs:=xs) fun t aV=>h t (by simp[x9,aV])]
theorem FO:∀{xs:List (Nat×Nat×aU)},(∀t∈ya xs,aX s t=aX dq t)->kk s xs=kk dq xs
 |[],_=>rfl
 |(a,b,x)::xs,h=>by
  simp only[kk,dV (x:=x) fun t aV=>h t (by simp[ya,aV]),FO (xs:=xs) fun t aV=>h t (by simp[ya,aV])]
theorem WD{o:dM}{M:Mem}(h:∀t∈o.cQ,aX s t=aX dq t):hU o s M=hU o dq M:=by
 cases o<;>simp only[hU]<;>simp only[dM.cQ,g9] at h
 case nQ x=>rw[dV h]
 case pick c a b=>rw[dV (x:=c) fun t aV=>h t (.inl aV),dV (x:=a) fun t aV=>h t (.inr (.inl aV)),dV (x:=b) fun t aV=>h t (.inr (.inr aV))]
 case build z cX=>rw[FO h]
 case buildSlice z a b cX=>rw[FO h]
 case load n bZ a=>rw[dV h]
 case nilCheck x=>rw[dV h]
 case bin op k x y=>rw[dV (x:=x) fun t aV=>h t (.inl aV),dV (x:=y) fun t aV=>h t (.inr aV)]
 case un op x=>rw[dV h]
 case conv k x=>rw[dV h]
 case tv x=>rw[dV h]
 case rh x=>rw[dV h]
 case lO f c3=>rw[w9 h]
 case slice sz x lo hi mx=>rw[dV (x:=x) fun t aV=>h t (.inl aV),zp (x:=lo) fun t aV=>h t (.inr (.inl aV)),zp (x:=hi) fun t aV=>h t (.inr (.inr (.inl aV))),zp (x:=mx) fun t aV=>h t (.inr (.inr (.inr aV)))]
 case uG x lo hi=>rw[dV (x:=x) fun t aV=>h t (.inl aV),zp (x:=lo) fun t aV=>h t (.inr (.inl aV)),zp (x:=hi) fun t aV=>h t (.inr (.inr aV))]
 case fieldAddr off x=>rw[dV h]
 case field a b c x=>rw[dV h]
 case gy a b x i=>rw[dV (x:=x) fun t aV=>h t (.inl aV),dV (x:=i) fun t aV=>h t (.inr aV)]
 case mH a x i=>rw[dV (x:=x) fun t aV=>h t (.inl aV),dV (x:=i) fun t aV=>h t (.inr aV)]
 case pD x i=>rw[dV (x:=x) fun t aV=>h t (.inl aV),dV (x:=i) fun t aV=>h t (.inr aV)]
 case uf a b c x i=>rw[dV (x:=x) fun t aV=>h t (.inl aV),dV (x:=i) fun t aV=>h t (.inr aV)]
 case sT x=>rw[dV h]
 case nJ x=>rw[dV h]
 case nP mx x y=>rw[dV (x:=x) fun t aV=>h t (.inl aV),dV (x:=y) fun t aV=>h t (.inr aV)]
 case extract x i=>rw[dV h]
 case lookup c z a b m k=>rw[dV (x:=m) fun t aV=>h t (.inl aV),dV (x:=k) fun t aV=>h t (.inr aV)]
end
section
variable{P:Program}{w0 w:World}{Γ0 Γ:Env}{M:Mem}{s:aI}{a:Act}{n:Nat}
theorem v9{dst:Option Nat}{bz:Bool}{v:V}{K:aI->Prop}:kN s dst bz v K↔(bz=true->∃b,v=.bool b)/\K (bA s dst v):=by
 cases bz with
 |false=>simp[kN]
 |true=>
  constructor
  . intro h
    refine⟨fun _=>?_,WG h⟩;simp only[kN,tn] at h;split at h
    . rename_i b aj;simp only[aW] at aj;exact⟨b,aj⟩
    . exact h.elim
  . rintro⟨h,ao⟩
    obtain⟨b,rfl⟩:=h rfl;exact ao
theorem yR{q:Bool}{op:dM}{dst:Option Nat}{bz:Bool}{K:aI->Mem->Prop}(hm:op.ht=false)(ar:op.jH=false):
 wpOp P q op dst bz s M K↔∃v,hU op s M=some v/\(bz=true->∃b,v=.bool b)/\K (bA s dst v) M:=by
 have e:wpOp P q op dst bz s M K=(match bz with
  |true=>tn (hU op s M) (fun b=>K (bA s dst (.bool b)) M)
  |false=>kZ (hU op s M) (fun v=>K (bA s dst v) M)):=by
  cases op<;>first|rfl|(simp[dM.jH] at ar;done)|(simp[dM.ht] at hm;done)
 rw[e];cases bz with
 |true=>
  simp only;constructor
  . intro h
    unfold tn at h;split at h
    . rename_i b aj;exact⟨_,aj,fun _=>⟨b,rfl⟩,h⟩
    . exact h.elim
  . rintro⟨v,aq,aj,ao⟩
    obtain⟨b,rfl⟩:=aj trivial;rw[aq];exact ao
 |false=>
  simp only;constructor
  . intro h
    unfold kZ at h;split at h
    . rename_i v aq;exact⟨_,aq,(fun e=>by cases e),h⟩
    . exact h.elim
  . rintro⟨v,aq,_,ao⟩
    rw[aq];exact ao
def k1(r:aI)(M:Mem)(aO:aI)(ah:Mem):Prop:=(∀t,aX aO t=aX r t)/\ah=M
def tj(P:Program)(op:dM)(dst:Option Nat)(bz:Bool)(s r:aI)(M:Mem)(v:V):Prop:=
 wpOp P false op dst bz s M (k1 (bA r dst v) M)
theorem hd(dst:Option Nat)(x:V)(t:Nat):aX (bA s dst x) t=if dst=some t then x else aX s t:=by
 cases dst with
 |none=>simp[bA]
 |some d=>
  simp only[bA,mi,aW];by_cases h:t=d
  . simp[h]
  . rw[if_neg h,if_neg (gq h)]
theorem Kv{dst:Option Nat}{r dq r2:aI}{v dT:V}(h:∀t,aX (bA s dst dT) t=aX (bA r dst v) t)(af:∀t,aX dq t=aX r2 t):∀t,aX (bA dq dst dT) t=aX (bA r2 dst v) t:=by
 intro t;have:=h t;rw[hd,hd] at this⊢;split
 . rename_i aw;rw[if_pos aw,if_pos aw] at this;exact this
 . exact af t
theorem tj.move{op:dM}{dst:Option Nat}{bz:Bool}{r dq r2:aI}{v:V}(hm:op.ht=false)(h:tj P op dst bz s r M v)(ag:∀t∈op.cQ,aX s t=aX dq t)(af:∀t,aX dq t=aX r2 t):tj P op dst bz dq r2 M v:=by
 unfold tj at*;cases ar:op.jH with
 |false=>
  rw[yR hm ar] at*;obtain⟨dT,aa,aj,az,_⟩:=h;exact⟨dT,by rw[<-WD ag];exact aa,aj,Kv az af,rfl⟩
 |true=>
  have key:∀(f:Nat)(args:List V),oQ P false f args M (fun dT ah=>kN s dst bz dT (fun aO=>k1 (bA r dst v) M aO ah))->oQ P false f args M (fun dT ah=>kN dq dst bz dT (fun aO=>k1 (bA r2 dst v) M aO ah)):=fun f args h=>
   b9.mono h fun dT ah ay=>by
    rw[v9] at ay⊢;exact⟨ay.1,Kv ay.2.1 af,ay.2.2⟩
  cases op<;>simp only[dM.jH,jh] at ar
  case call f args=>
   simp only[dM.cQ] at ag;have h:oQ P false f (e_ s args) M _:=h;rw[w9 ag] at h;exact key _ _ h
  case fX jB args=>
   simp only[dM.cQ,g9] at ag;have h:mP P false (aP s jB) (e_ s args) M _:=h;rw[w9 (xs:=args) fun t aV=>ag t (.inr aV),dV (x:=jB) fun t aV=>ag t (.inl aV)] at h;show mP P false (aP dq jB) (e_ dq args) M _;unfold mP at h⊢;split at h
   . exact key _ _ h
   . exact key _ _ h
   . exact h.elim
theorem Yk{op:dM}{dst:Option Nat}{bz:Bool}{K:aI->Mem->Prop}(hm:op.ht=false)(h:wpOp P true op dst bz s M K):∃v,tj P op dst bz s s M v/\K (bA s dst v) M:=by
 cases ar:op.jH with
 |false=>
  rw[yR hm ar] at h;obtain⟨v,aa,aj,ao⟩:=h;refine⟨v,?_,ao⟩;unfold tj;rw[yR hm ar];exact⟨v,aa,aj,fun _=>rfl,rfl⟩
 |true=>
  have key:∀(f:Nat)(args:List V),oQ P true f args M (fun v ah=>kN s dst bz v (fun aO=>K aO ah))->∃v,oQ P false f args M (fun dT ah=>kN s dst bz dT (fun aO=>k1 (bA s dst v) M aO ah))/\K (bA s dst v) M:=by
   rintro f args ⟨v,aa,af⟩;rw[v9] at af;refine⟨v,b9.mono aa ?_,af.2⟩;rintro x ah ⟨rfl,rfl⟩;rw[v9];exact⟨af.1,fun _=>rfl,rfl⟩
  cases op<;>simp only[dM.jH,jh] at ar
  case call f args=>exact key f _ h
  case fX jB args=>
   have h:mP P true (aP s jB) (e_ s args) M _:=h;unfold mP at h;split at h
   . rename_i f c3 aq
     obtain⟨v,aa,af⟩:=key _ _ h;exact⟨v,(by show mP P false (aP s jB) (e_ s args) M _;unfold mP;rw[aq];exact aa),af⟩
   . rename_i f c3 aq
     obtain⟨v,aa,af⟩:=key _ _ h;exact⟨v,(by show mP P false (aP s jB) (e_ s args) M _;unfold mP;rw[aq];exact aa),af⟩
   . exact h.elim
def gr(P:Program)(o:bw)(s:aI)(M:Mem)(v:V):Prop:=hz P false o s M (k1 (bA s o.dst v) M)
theorem yB{g:Nat}{x:V}(h:aX s g=x)(t:Nat):aX (eP s g x) t=aX s t:=by
 rw[mi];split
 . rename_i e;rw[e,h]
 . rfl
theorem O0{r:aI}(h:∀t,aX s t=aX r t)(dst:Option Nat)(x:V)(t:Nat):aX (bA s dst x) t=aX (bA r dst x) t:=by
 rw[hd,hd,h t]
theorem gr.move{o:bw}{dq:aI}{v:V}(hm:o.op.ht=false)(h:gr P o s M v)(ag:∀t∈o.cQ,aX s t=aX dq t):gr P o dq M v:=by
 obtain⟨dst,op,bz,g⟩:=o;cases g with
 |none=>exact tj.move (r:=s) hm h ag (fun _=>rfl)
 |some nv=>
  obtain⟨g,gW⟩:=nv;have aB:aX s g=aX dq g:=ag g (by simp[bw.cQ]);have er:∀t∈op.cQ,aX s t=aX dq t:=fun t aV=>ag t (by simp[bw.cQ,aV]);unfold gr hz at h⊢;simp only at h⊢;rw[<-aB];split at h
  . rename_i b aj
    have skip:∀c,aX s g=.bool c->k1 (bA s dst v) M (bA (eP s g (.bool c)) dst (.tuple [])) M->k1 (bA dq dst v) M (bA (eP dq g (.bool c)) dst (.tuple [])) M:=fun c ar h=>
     ⟨Kv h.1 (fun t=>yB (by rw[<-aB,ar]) t),rfl⟩;have run:∀c,aX s g=.bool c->wpOp P false op dst bz (eP s g (.bool c)) M (k1 (bA s dst v) M)->wpOp P false op dst bz (eP dq g (.bool c)) M (k1 (bA dq dst v) M):=fun c ar h=>
     tj.move (r:=s) (r2:=dq) hm h (fun t aV=>by rw[yB ar,yB (by rw[<-aB,ar])];exact er t aV) (fun t=>yB (by rw[<-aB,ar]) t);cases gW<;>cases b
    . exact run _ aj h
    . exact skip _ aj h
    . exact skip _ aj h
    . exact run _ aj h
  . exact⟨Kv h.1 (fun _=>rfl),rfl⟩
  . exact h.elim
theorem Pw{o:bw}{K:aI->Mem->Prop}(hm:o.op.ht=false)(h:hz P true o s M K):∃v aO,gr P o s M v/\(∀t,aX aO t=aX (bA s o.dst v) t)/\K aO M:=by
 obtain⟨dst,op,bz,g⟩:=o;cases g with
 |none=>
  obtain⟨v,aa,af⟩:=Yk hm h;exact⟨v,_,aa,fun _=>rfl,af⟩
 |some nv=>
  obtain⟨g,gW⟩:=nv;unfold hz at h;simp only at h;split at h
  . rename_i b aj
    have run:∀c,aX s g=.bool c->wpOp P true op dst bz (eP s g (.bool c)) M K->∃v aO,wpOp P false op dst bz (eP s g (.bool c)) M (k1 (bA s dst v) M)/\(∀t,aX aO t=aX (bA s dst v) t)/\K aO M:=fun c ar h=>by
     obtain⟨v,aa,af⟩:=Yk hm h;exact⟨v,_,tj.move (r:=eP s g (.bool c)) (r2:=s) hm aa (fun _ _=>rfl) (fun t=>yB ar t),O0 (fun t=>yB ar t) _ _,af⟩
    have fin:∀v,hz P false ⟨dst,op,bz,some (g,gW)⟩ s M (k1 (bA s dst v) M)->gr P ⟨dst,op,bz,some (g,gW)⟩ s M v:=fun _ h=>h;have skip:∀c,aX s g=.bool c->∀t,aX (bA (eP s g (.bool c)) dst (.tuple [])) t=aX (bA s dst (.tuple [])) t:=fun c ar=>O0 (fun t=>yB ar t) _ _;cases gW<;>cases b<;>simp only[kc] at h
    . obtain⟨v,aO,aa,af,az⟩:=run _ aj h
      exact⟨v,aO,fin v (by simp only[hz,aj,kc];exact aa),af,az⟩
    . exact⟨.tuple [],_,fin _ (by simp only[hz,aj,kc];exact⟨skip _ aj,rfl⟩),skip _ aj,h⟩
    . exact⟨.tuple [],_,fin _ (by simp only[hz,aj,kc];exact⟨skip _ aj,rfl⟩),skip _ aj,h⟩
    . obtain⟨v,aO,aa,af,az⟩:=run _ aj h
      exact⟨v,aO,fin v (by simp only[hz,aj,kc];exact aa),af,az⟩
  . rename_i aj
    refine⟨.tuple [],_,?_,fun _=>rfl,h⟩;show hz P false ⟨dst,op,bz,some (g,gW)⟩ s M _;simp only[hz,aj];exact⟨fun _=>rfl,rfl⟩
  . exact h.elim
theorem wx{aF:Array Oper}{i:Nat}{o:Oper}{co:bw}{mu:List Nat}(aA:aF[i]? =some o)(fs:s6 P n mu aF i o=some co)(bl:cF w0 Γ0 n w Γ s M a){K:aI->Mem->Prop}(fk:hz P false co s M K)
 {next:Act->World->Prop}{Q:Exit->Act->World->Prop}(ao:∀aO ah dt w' Γ',cF w0 Γ0 n w' Γ' aO ah dt->K aO ah->next dt w'):Go.wpOp P aF Q i next a w:=by
 obtain⟨op,g,hb,aB,rfl,aw⟩:=OF fs;have run:∀aO,cF w0 Γ0 n w Γ aO M a->wpOp P false op o.dst (Ec P o.type) aO M K->Region.wanted o (yielded aF a.tmps)=true->Go.wpOp P aF Q i next a w:=by
  intro aO ct hw t9;unfold Go.wpOp;simp only[aA,t9,if_true];exact .inl (Yl ct hb aw hw ao)
 have skip:∀aO,cF w0 Γ0 n w Γ aO M a->K (bA aO o.dst (.tuple [])) M->Region.wanted o (yielded aF a.tmps)=false->Go.wpOp P aF Q i next a w:=by
  intro aO ct hw t9;unfold Go.wpOp;simp only[aA,t9,jh,if_false];exact ao _ _ _ _ _ (ct.put WP aw) hw
 cases fJ:o.guard with
 |none=>
  rw[fJ] at aB;simp only[yt,aW] at aB;subst aB;exact run s bl fk (by simp[Region.wanted,fJ])
 |some nv=>
  obtain⟨j,gW⟩:=nv;rw[fJ] at aB;simp only[yt,dK] at aB;obtain⟨d,jo,rfl⟩:=aB;simp only[hz] at fk;have oq:=bl.gV d;split at fk
  . rename_i b aj
    rw[aj] at oq;have rO:=qP oq rfl;have aE:=Yq jo bl.size rO;have ou:Region.wanted o (yielded aF a.tmps)=(b==gW):=by simp[Region.wanted,fJ,aE]
    have nE:∀c,b=c->cF w0 Γ0 n w Γ (eP s d (.bool c)) M a:=fun c ar=>⟨bl.gd,Xh bl.gV (by rw[aj,ar]),bl.size,bl.defers,bl.ext⟩;cases gW with
    |true=>
     cases b with
     |true=>exact run _ (nE true rfl) fk (by rw[ou];rfl)
     |false=>exact skip _ (nE false rfl) fk (by rw[ou];rfl)
    |false=>
     cases b with
     |true=>exact skip _ (nE true rfl) fk (by rw[ou];rfl)
     |false=>exact run _ (nE false rfl) fk (by rw[ou];rfl)
  . rename_i aj
    rw[aj] at oq;have rO:a.tmps.getD d Go.undef=.tuple #[]:=by
     generalize a.tmps.getD d Go.undef=q at oq;cases oq with
     |tuple _ bn ag=>
      have:bn=#[]:=Array.size_eq_zero_iff.1 (by simpa using ag);rw[this]
    have aE:=Yr jo bl.size rO;exact skip s bl fk (by simp[Region.wanted,fJ,aE])
  . exact fk.elim
def oZ(P:Program)(M:Mem):List bw->List V->aI->aI->Prop
 |o::os,v::vs,s,da=>gr P o s M v/\o.op.ht=false/\oZ P M os vs (bA s o.dst v) da
 |[],[],s,da=>∀t,aX da t=aX s t
 |_,_,_,_=>False
theorem oZ.move:∀{os:List bw}{vs:List V}{s dq da:aI},oZ P M os vs s da->(∀t,aX s t=aX dq t)->oZ P M os vs dq da
 |o::os,v::vs,s,dq,da,h,he=>⟨h.1.move h.2.1 (fun t _=>he t),h.2.1,oZ.move h.2.2 (fun t=>O0 he _ _ t)⟩
 |[],[],s,dq,da,h,he=>fun t=>(h t).trans (he t)
 |o::os,[],_,_,_,h,_=>h.elim
 |[],v::vs,_,_,_,h,_=>h.elim
theorem Od{K:aI->Mem->Prop}:∀(os:List bw)(dR:List Bool)(s:aI),os.length=dR.length->uo dR os=true->uK P os dR s M K->
 ∃(c:Nat)(vs:List V)(da:aI),c<=os.length/\vs.length=c/\oZ P M (os.take c) vs s da/\
  ((c=os.length/\K da M)∨(∃o,os[c]? =some o/\dR[c]? =some false/\hz P false o da M (fun aO ah=>uK P (os.drop (c+1)) (dR.drop (c+1)) aO ah K)))
 |[],[],s,_,_,h=>⟨0,[],s,cH _,rfl,fun _=>rfl,.inl ⟨rfl,h⟩⟩
 |o::os,false::dR,s,_,_,h=>⟨0,[],s,fR _,rfl,fun _=>rfl,.inr ⟨o,rfl,rfl,h⟩⟩
 |o::os,true::dR,s,ag,hm,h=>by
  simp only[uo,Bool.not_true,Bool.false_or,cc,lV] at hm;obtain⟨v,aO,aa,af,az⟩:=Pw hm.1 h;obtain⟨c,vs,da,ar,aq,an,ao⟩:=Od os dR aO (by simpa using ag) hm.2 az;refine⟨c+1,v::vs,da,by simp;omega,by simp[aq],⟨aa,hm.1,an.move af⟩,?_⟩;rcases ao with⟨rfl,ao⟩|⟨o',bh,bC,ca⟩
  . exact .inl ⟨rfl,ao⟩
  . exact .inr ⟨o',by simpa using bh,by simpa using bC,by simpa using ca⟩
 |[],q::dR,s,ag,_,_=>by simp at ag
 |o::os,[],s,ag,_,_=>by simp at ag
def iV(L:Nat->Bool):Nat->List bw->List V->aI->aI
 |j,o::os,v::vs,s=>iV L (j+1) os vs (bif L j then bA s o.dst v else s)
 |_,_,_,s=>s
theorem Fh{L L':Nat->Bool}{t:Nat}:∀(os:List bw)(vs:List V)(j:Nat)(s aO:aI),aX s t=aX aO t->(∀i o,os[i]? =some o->o.dst=some t->L (j+i)=L' (j+i))->aX (iV L j os vs s) t=aX (iV L' j os vs aO) t
 |[],_,_,s,aO,h,_=>by simpa[iV] using h
 |o::os,[],_,s,aO,h,_=>by simpa[iV] using h
 |o::os,v::vs,j,s,aO,h,cV=>by
  simp only[iV];refine Fh os vs (j+1) _ _ ?_ (fun i o' hi aw=>by have:=cV (i+1) o' (by simpa using hi) aw;rwa [<-kX,Nat.add_right_comm] at this);by_cases aw:o.dst=some t
  . have:=cV 0 o rfl aw
    rw[iT] at this;rw[this];cases L' j
    . exact h
    . simp only[cond_true,hd,aw,if_true]
  . cases L j<;>cases L' j<;>simp only[cond_true,cond_false,hd,if_neg aw]<;>exact h
theorem Qd{L:Nat->Bool}{t:Nat}{o:bw}{v:V}:∀(os:List bw)(vs:List V)(j i:Nat)(s:aI),os[i]? =some o->vs[i]? =some v->o.dst=some t->L (j+i)=true->(∀k o',i<k->os[k]? =some o'->o'.dst=some t->L (j+k)=false)->aX (iV L j os vs s) t=v
 |[],_,_,i,_,h,_,_,_,_=>by simp at h
 |o'::os,[],_,i,_,_,h,_,_,_=>by simp at h
 |o'::os,dT::vs,j,0,s,h,aq,aw,cV,ao=>by
  simp only[ji,aW] at h aq;subst h;subst aq;simp only[iV];rw[iT] at cV;rw[cV];have:=Fh (L:=L) (L':=fun _=>false) (t:=t) os vs (j+1) (bA s o'.dst dT) (bA s o'.dst dT) rfl (fun i x hi ad=>by have:=ao (i+1) x (by omega) (by simpa using hi) ad;rwa [<-kX,Nat.add_right_comm] at this);simp only[cond_true,this];have none:∀(os:List bw)(vs:List V)(j:Nat)(s:aI),iV (fun _=>false) j os vs s=s:=by
   intro os;induction os with
   |nil=>intro vs j s;simp[iV]
   |cons o os bu=>
    intro vs j s;cases vs with
    |nil=>simp[iV]
    |cons v vs=>simp only[iV,cond_false,bu]
  rw[none,hd,if_pos aw]
 |o'::os,dT::vs,j,i+1,s,h,aq,aw,cV,ao=>by
  simp only[iV];exact Qd os vs (j+1) i _ (by simpa using h) (by simpa using aq) aw (by rwa [Nat.add_right_comm,kX]) (fun k x gH ad vI=>by have:=ao (k+1) x (by omega) (by simpa using ad) vI;rwa [<-kX,Nat.add_right_comm] at this)
theorem Fi:∀(os:List bw)(vs:List V)(j:Nat)(s:aI)(t:Nat)(L:Nat->Bool),(∀i,i<os.length->L (j+i)=false)->aX (iV L j os vs s) t=aX s t
 |[],_,_,s,t,_,_=>by simp[iV]
 |o::os,[],_,s,t,_,_=>by simp[iV]
 |o::os,v::vs,j,s,t,L,h=>by
  simp only[iV];rw[Fi os vs (j+1) _ t L (fun i hi=>by have:=h (i+1) (by simp;omega);rwa [<-kX,Nat.add_right_comm] at this)];have:=h 0 (by simp);rw[iT] at this;rw[this];rfl
theorem oZ.at{da:aI}:∀{os:List bw}{vs:List V}{s:aI},oZ P M os vs s da->∀(i j:Nat)(o:bw),os[i]? =some o->∃v,vs[i]? =some v/\o.op.ht=false/\∃AO,gr P o AO M v/\∀t,aX (iV (fun k=>decide (k<j+i)) j os vs s) t=aX AO t
 |o::os,v::vs,s,h,0,j,o',aA=>by
  simp only[ji,aW] at aA;subst aA;refine⟨v,rfl,h.2.1,s,h.1,fun t=>?_⟩;rw[Fi];intro i _;simp
 |o::os,v::vs,s,h,i+1,j,o',aA=>by
  obtain⟨dT,aa,af,AO,az,bh⟩:=oZ.at h.2.2 i (j+1) o' (by simpa using aA);refine⟨dT,by simpa using aa,af,AO,az,fun t=>?_⟩;rw[<-bh t];simp only[iV];have:decide (j<j+(i+1))=true:=by simp
  rw[this];have e:(fun k=>decide (k<j+(i+1)))=fun k=>decide (k<j+1+i):=by funext k;congr 1;rw[kX,Nat.add_comm 1 i]
  rw[e];rfl
 |[],[],s,h,i,j,o',aA=>by simp at aA
 |[],v::vs,_,h,_,_,_,_=>h.elim
 |o::os,[],_,h,_,_,_,_=>h.elim
theorem oZ.fin{da:aI}:∀{os:List bw}{vs:List V}{s:aI},oZ P M os vs s da->∀(j:Nat)(L:Nat->Bool),(∀i,i<os.length->L (j+i)=true)->∀t,aX (iV L j os vs s) t=aX da t
 |o::os,v::vs,s,h,j,L,cV,t=>by
  simp only[iV];have:=cV 0 (by simp);rw[iT] at this;rw[this];exact oZ.fin h.2.2 (j+1) L (fun i hi=>by have:=cV (i+1) (by simp;omega);rwa [<-kX,Nat.add_right_comm] at this) t
 |[],[],s,h,j,L,_,t=>by simpa[iV] using(h t).symm
 |[],v::vs,_,h,_,_,_,_=>h.elim
 |o::os,[],_,h,_,_,_,_=>h.elim
theorem aMr{acc:List Nat}{o:Oper}{j:Nat}(h:(Eo acc o).testBit j=true):∃e∈o.after,Region.binds .any e=true/\(e.on=j∨(acc.getD e.on 0).testBit j=true):=by
 have key:∀(l:List Edge)(s:Nat),(l.foldl (fun s e=>bif Region.binds .any e then(s|||2^e.on)|||acc.getD e.on 0 else s) s).testBit j=true->s.testBit j=true∨∃e∈l,Region.binds .any e=true/\(e.on=j∨(acc.getD e.on 0).testBit j=true):=by
  intro l;induction l with
  |nil=>intro s h;exact .inl h
  |cons e l bu=>
   intro s h;simp only[List.foldl_cons] at h;rcases bu _ h with aa|⟨fx,tO,aa⟩
   . cases aj:Region.binds .any e with
     |false=>simp only[aj,cond_false] at aa;exact .inl aa
     |true=>
      simp only[aj,cond_true,Nat.testBit_or,Bool.or_eq_true,Nat.testBit_two_pow,decide_eq_true_eq] at aa;rcases aa with(aa|aa)|aa
      . exact .inl aa
      . exact .inr ⟨e,by simp,aj,.inl aa⟩
      . exact .inr ⟨e,by simp,aj,.inr aa⟩
   . exact .inr ⟨fx,by simp[tO],aa⟩
 rcases key _ 0 h with aa|⟨e,he,aa⟩
 . simp at aa
 . exact⟨e,by simpa using he,aa⟩
theorem Lt:∀(os:List Oper)(acc:List Nat),(gF os acc).length=acc.length+os.length/\(∀i,i<acc.length->(gF os acc)[i]? =acc[i]?)/\∀i o,os[i]? =some o->(gF os acc)[acc.length+i]? =some (Eo ((gF os acc).take (acc.length+i)) o)
 |[],acc=>⟨by simp[gF],fun _ _=>rfl,fun i o h=>by simp at h⟩
 |o::os,acc=>by
  obtain⟨aa,af,az⟩:=Lt os (acc++[Eo acc o]);simp only[gF];refine⟨by rw[aa];simp;omega,fun i hi=>by rw[af i (by simp;omega),gp hi],fun i o' aA=>?_⟩;cases i with
  |zero=>
   simp only[ji,aW] at aA;subst aA;rw[iT,af acc.length (by simp)];have e:(gF os (acc++[Eo acc o])).take acc.length=acc:=by
    refine oT fun i=>?_;by_cases hi:i<acc.length
    . rw[hA hi,af i (by simp;omega),gp hi]
    . rw[lX (by simp;omega),lX (by omega)]
   rw[e];simp
  |succ i=>
   have:=az i o' (by simpa using aA);simp only[dz,dC,gY] at this;rw[show acc.length+(0+1)+i=acc.length+(i+1) from by omega] at this;exact this
def iE(aF:Array Oper)(j k:Nat):Prop:=((gF aF.toList []).getD k 0).testBit j=true
theorem n_:∀(os:List Oper)(k:Nat),tw k os=true->∀i o e,os[i]? =some o->e∈o.after->Region.binds .any e=true->e.on<k+i
 |[],_,_,i,o,e,h,_,_=>by simp at h
 |o::os,k,bU,i,o',e,aA,he,aj=>by
  simp only[tw,cc] at bU;cases i with
  |zero=>
   simp only[ji,aW] at aA;subst aA;have:=List.all_eq_true.1 bU.1 e (by simpa using he);simp only[aj,Bool.not_true,Bool.false_or] at this;have:=o2.1 this;omega
  |succ i=>
   have:=n_ os (k+1) bU.2 i o' e (by simpa using aA) he aj;omega
theorem ss{aF:Array Oper}(bU:tw 0 aF.toList=true){L:Nat->Bool}(cV:∀k o,aF[k]? =some o->L k=true->∀e∈o.after,Region.binds .any e=true->L e.on=true):
 ∀(m k:Nat),k<m->∀o,aF[k]? =some o->(∀e∈o.after,Region.binds .any e=true->L e.on=true)->∀j,iE aF j k->L j=true
 |0,k,ao,_,_,_,_,_=>absurd ao (e8 k)
 |m+1,k,ao,o,aA,an,j,ap=>by
  unfold iE at ap;obtain⟨_,_,az⟩:=Lt aF.toList [];have HR:=az k o (by simpa using aA);simp only[gY,ee] at HR;rw[List.getD_eq_getElem?_getD,HR,Option.getD_some] at ap;obtain⟨e,he,aj,ap⟩:=aMr ap;have bx:e.on<k:=by have:=n_ aF.toList 0 bU k o e (by simpa using aA) he aj;omega
  have hle:=an e he aj;rcases ap with rfl|ap
  . exact hle
  . rw[List.getD_eq_getElem?_getD,hA bx,<-List.getD_eq_getElem?_getD] at ap
    have zQ:k<aF.size:=(lp.1 aA).1;obtain⟨o',ei⟩:∃o',aF[e.on]? =some o':=⟨aF[e.on]'(by omega),by simp[show e.on<aF.size from by omega]⟩;exact ss bU cV m e.on (by omega) o' ei (cV e.on o' ei hle) j ap
theorem Am{l:List Nat}{t:Nat}:nG l t=true↔t∈l:=by
 simp[nG,List.any_eq_true]
theorem lA{x y:bw}(h:x.sq y=true):(∀d,x.dst=some d->d∉y.cQ)/\(∀d,x.dst=some d->y.dst≠some d)/\(∀d,y.dst=some d->d∉x.cQ):=by
 unfold bw.sq at h;simp only[cc] at h;refine⟨fun d aw hm=>?_,fun d aw aE=>?_,fun d aw hm=>?_⟩
 . rw[aw] at h
   simp only[cc,lV] at h;rw[Am.2 hm] at h;simp at h
 . rw[aw,aE] at h
   simp at h
 . rw[aw] at h
   simp only[lV] at h;rw[Am.2 hm] at h;simp at h
theorem Qx{b:Nat}{y:bw}:∀(xs:List bw)(i:Nat),Fo b y i xs=true->∀k x,xs[k]? =some x->b.testBit (i+k)=true∨x.sq y=true
 |[],_,_,k,x,h=>by simp at h
 |dh::xs,i,h,k,x,ad=>by
  simp only[Fo,cc,Bool.or_eq_true] at h;cases k with
  |zero=>simp only[ji,aW] at ad;subst ad;exact h.1
  |succ k=>have:=Qx xs (i+1) h.2 k x (by simpa using ad);rwa [show i+(k+1)=i+1+k from by omega]
theorem Qw{bg:List bw}:∀(jz:List Nat)(bH:List bw)(j:Nat),j+bH.length=bg.length->jz.length=bH.length->Fm bg jz bH=true->∀k y i x,bH[k]? =some y->i<j+k->bg[i]? =some x->(jz.getD k 0).testBit i=true∨x.sq y=true
 |[],[],j,_,_,_,k,y,i,x,aE,_,_=>by simp at aE
 |b::jz,hh::bH,j,ap,ag,h,k,y,i,x,aE,hi,ad=>by
  simp only[Fm,cc] at h;cases k with
  |zero=>
   simp only[ji,aW] at aE;subst aE;have e:bg.length -bH.length -1=j:=by simp at ap;omega
   rw[e] at h;have:=Qx _ _ h.1 i x (by rw[hA (by omega)];exact ad);simpa using this
  |succ k=>
   have:=Qw jz bH (j+1) (by simp at ap;omega) (by simpa using ag) h.2 k y i x (by simpa using aE) (by omega) ad;simpa using this
 |[],hh::bH,_,_,ag,_,_,_,_,_,_,_,_=>by simp at ag
 |b::jz,[],_,_,ag,_,_,_,_,_,_,_,_=>by simp at ag
theorem Mi{k b:Nat}:∀(cs:List Nat)(i:Nat),BD k b i cs=true->∀j c,cs[j]? =some c->(i+j<k->b.testBit (i+j)=true)/\(k<i+j->c.testBit k=true)
 |[],_,_,j,c,h=>by simp at h
 |cK::cs,i,h,j,c,ar=>by
  simp only[BD,cc] at h;cases j with
  |zero=>
   simp only[ji,aW] at ar;subst ar;rw[iT];refine⟨fun hi=>?_,fun hi=>?_⟩
   . have:iw i k=true:=o2.2 hi
     simpa[this] using h.1
   . have aa:iw i k=false:=by
      cases aj:iw i k with
      |false=>rfl
      |true=>have:=o2.1 aj;omega
     have af:iw k i=true:=o2.2 hi;simpa[aa,af] using h.1
  |succ j=>have:=Mi cs (i+1) h.2 j c (by simpa using ar);rwa [show i+(j+1)=i+1+j from by omega]
theorem V5{B:List Nat}:∀(jz:List Nat)(os:List bw)(k:Nat),jz.length=os.length->(sV B k jz os).length=os.length/\∀i,(sV B k jz os)[i]? =some false->∀b,jz[i]? =some b->BD (k+i) b 0 B=true
 |[],[],_,_=>⟨rfl,fun i h=>by simp[sV] at h⟩
 |b::jz,o::os,k,ag=>by
  obtain⟨aa,af⟩:=V5 (B:=B) jz os (k+1) (by simpa using ag);refine⟨by simp[sV,aa],fun i h iW aj=>?_⟩;cases i with
  |zero=>
   simp only[ji,aW] at aj;subst aj;simp only[sV,ji,aW,Bool.not_eq_false',cc] at h;simpa using h.2
  |succ i=>
   have:=af i (by simpa[sV] using h) iW (by simpa using aj);rwa [show k+(i+1)=k+1+i from by omega]
 |[],o::os,_,ag=>by simp at ag
 |b::jz,[],_,ag=>by simp at ag
theorem EI{mu:List Nat}{aF:Array Oper}:∀(os:List Oper)(k:Nat)(bg:List bw),pP P n mu aF k os=some bg->bg.length=os.length/\∀i o,os[i]? =some o->∃co,bg[i]? =some co/\s6 P n mu aF (k+i) o=some co
 |[],k,bg,h=>by
  simp only[pP,aW] at h;subst h;exact⟨rfl,fun i o h=>by simp at h⟩
 |o::os,k,bg,h=>by
  simp only[pP] at h;split at h
  . rename_i a bk aa af
    simp only[aW] at h;subst h;obtain⟨az,bh⟩:=EI os (k+1) bk af;refine⟨by simp[az],fun i o' aA=>?_⟩;cases i with
    |zero=>simp only[ji,aW] at aA;subst aA;exact⟨a,rfl,aa⟩
    |succ i=>
     obtain⟨co,bC,ca⟩:=bh i o' (by simpa using aA);exact⟨co,by simpa using bC,by rwa [show k+(i+1)=k+1+i from by omega]⟩
  . cases h
theorem Bo{p p':Nat->Bool}{i:Nat}(ay:p i=true)(UQ:p' i=false)(ak:∀j,j≠i->p' j=p j):∀m,(c5 m).countP p=(c5 m).countP p'+if i<m then 1 else 0
 |0=>by simp
 |m+1=>by
  have bu:=Bo ay UQ ak m;have e:∀q:Nat->Bool,(c5 (m+1)).countP q=(c5 m).countP q+if q m=true then 1 else 0:=fun q=>by
   rw[List.range_succ,List.countP_append];simp[List.countP_cons]
  rw[e p,e p',bu];by_cases hm:m=i
  . subst hm
    rw[if_neg (Nat.lt_irrefl m),if_pos ay,if_neg (by rw[UQ];simp),if_pos (Nat.lt_succ_self m)]
  . rw[ak m hm]
    by_cases h:i<m
    . rw[if_pos h,if_pos (show i<m+1 by omega)];omega
    . rw[if_neg h,if_neg (show¬i<m+1 by omega)];omega
theorem aMA{id:Nat}{aF:Array Oper}{bg:List bw}{dR:List Bool}{mu:List Nat}{Q:Exit->Act->World->Prop}{K:aI->Mem->Prop}(Do:P.follows .mixedOrders=true)(fs:pP P n mu aF 0 aF.toList=some bg)(Dn:JX aF bg=some dR)
 (vE:cF w0 Γ0 n w Γ s M a)(zZ:uK P bg dR s M K)(gw:∀aO ah dt w' Γ',cF w0 Γ0 n w' Γ' aO ah dt->K aO ah->Q .normal dt w'):(Code.region id aF true).wp P Q a w:=by
 obtain⟨hlen,gx⟩:=EI _ _ _ fs;simp only[ee] at gx;have Ng:bg.length=aF.size:=by simpa using hlen
 unfold JX at Dn;simp only at Dn;obtain⟨ar,rfl⟩:=fg Dn;simp only[cc] at ar;obtain⟨⟨⟨⟨jD,eC⟩,vx⟩,_⟩,_⟩:=ar;obtain⟨aG9,_,_⟩:=Lt aF.toList [];simp only[gY,ee,Array.length_toList] at aG9;obtain⟨Dv,aJT⟩:=V5 (B:=gF aF.toList []) (gF aF.toList []) bg 0 (by omega);have nC:∀i,i<aF.size->∃o co,aF[i]? =some o/\bg[i]? =some co/\s6 P n mu aF i o=some co:=fun i hi=>by
  obtain⟨co,aa,af⟩:=gx i aF[i] (by simp[hi]);exact⟨_,co,by simp[hi],aa,af⟩
 have i4:∀i k x y,i<k->bg[i]? =some x->bg[k]? =some y->iE aF i k∨x.sq y=true:=fun i k x y i6 ad aE=>by
  have:=Qw (bg:=bg) (gF aF.toList []) bg 0 (by omega) (by omega) eC k y i x aE (by omega) ad;exact this
 have aIj:∀m,m<aF.size->(sV (gF aF.toList []) 0 (gF aF.toList []) bg)[m]? =some false->(∀i,i<m->iE aF i m)/\(∀i,m<i->i<aF.size->iE aF m i):=fun m hm aG=>by
  have aj:(gF aF.toList [])[m]? =some ((gF aF.toList []).getD m 0):=by
   rw[List.getD_eq_getElem?_getD,gg (by omega)];rfl
  have:=aJT m aG _ aj;rw[ee] at this;refine⟨fun i hi=>?_,fun i hi eN=>?_⟩
  . have aa:=(Mi _ 0 this i _ (gg (by omega))).1 (by omega)
    rwa [ee] at aa
  . have aa:=(Mi _ 0 this i _ (gg (by omega))).2 (by omega)
    unfold iE;rw[List.getD_eq_getElem?_getD,gg (by omega)];exact aa
 generalize UU:sV (gF aF.toList []) 0 (gF aF.toList []) bg=dR at*;have aJr:∀k,uo (dR.drop k) (bg.drop k)=true:=by
  intro k;have:∀(k:Nat)(dR:List Bool)(bg:List bw),uo dR bg=true->uo (dR.drop k) (bg.drop k)=true:=by
   intro k;induction k with
   |zero=>intro dR bg h;exact h
   |succ k bu=>
    intro dR bg h;cases dR with
    |nil=>cases bg<;>simp[uo]
    |cons q dR=>
     cases bg with
     |nil=>simp only[List.drop_nil];cases(q::dR).drop (k+1)<;>rfl
     |cons o os=>
      simp only[uo,cc] at h;exact bu dR os h.2
  exact this k dR bg vx
 have main:∀(fuel:Nat)(bc:Array Bool)(a:Act)(w:World)(Γ:Env)(aC c:Nat)(vs:List V)(s da:aI)(M:Mem),
  (c5 aF.size).countP (fun i=>!bc.getD i true)<=fuel->bc.size=aF.size->
  (∀k o,aF[k]? =some o->bc.getD k true=true->∀e∈o.after,Region.binds .any e=true->bc.getD e.on true=true)->
  aC+c<=aF.size->(∀i,i<aC->bc.getD i true=true)->(∀i,aC+c<=i->i<aF.size->bc.getD i true=false)->
  vs.length=c->oZ P M ((bg.drop aC).take c) vs s da->
  ((aC+c=aF.size/\K da M)∨(∃o,bg[aC+c]? =some o/\dR[aC+c]? =some false/\hz P false o da M (fun aO ah=>uK P (bg.drop (aC+c+1)) (dR.drop (aC+c+1)) aO ah K)))->
  cF w0 Γ0 n w Γ (iV (fun i=>bc.getD i true) aC ((bg.drop aC).take c) vs s) M a->
  wpAny P .any aF Q fuel bc a w:=by
  intro fuel;induction fuel with
  |zero=>
   intro bc a w Γ aC c vs s da M mC gm dg UD gQ eD kp cw hq bl;have eg:∀i,i<aF.size->bc.getD i true=true:=fun i hi=>by
    have a8:(c5 aF.size).countP (fun i=>!bc.getD i true)=0:=by omega
    rw[List.countP_eq_zero] at a8;have:=a8 i (ka.2 hi);simpa using this
   have rL:Region.ready .any aF bc=[]:=by
    rw[List.eq_nil_iff_forall_not_mem];intro j ap;obtain⟨aa,o,af,_⟩:=mem_ready.1 ap;rw[eg j (lp.1 af).1] at aa;cases aa
   have hm:aC+c=aF.size:=by
    rcases mR (aC+c) aF.size with bx|pl
    . have:=eD (aC+c) (cH _) bx
      rw[eg _ bx] at this;cases this
    . omega
   rcases hq with⟨_,i3⟩|⟨o,aA,_⟩
   . refine⟨rL,gw da M a w Γ ⟨bl.gd,fun t=>?_,bl.size,bl.defers,bl.ext⟩ i3⟩
     rw[<-cw.fin aC (fun i=>bc.getD i true) (fun i hi=>eg (aC+i) (by simp at hi;omega)) t];exact bl.gV t
   . have:=(bo.1 aA).1
     omega
  |succ fuel bu=>
   intro bc a w Γ aC c vs s da M mC gm dg UD gQ eD kp cw hq bl;have fJ:∀i b iW,i<aF.size->bc.getD i b=bc.getD i iW:=fun i b iW hi=>by simp[gm,hi]
   have nz:∀i,i<aF.size->bc.getD i true=false->(c5 aF.size).countP (fun j=>!(bc.setIfInBounds i true).getD j true)<=fuel:=fun i hi hu=>by
    have:=Bo (p:=fun j=>!bc.getD j true) (p':=fun j=>!(bc.setIfInBounds i true).getD j true) (i:=i) (by simp only[hu];rfl) (by simp[gm,hi]) (fun j ap=>by simp only[getD_set_ne true (gq ap)]) aF.size;rw[if_pos hi] at this;omega
   have ny:∀i o,aF[i]? =some o->(∀e∈o.after,Region.binds .any e=true->bc.getD e.on false=true)->
    (∀k o,aF[k]? =some o->(bc.setIfInBounds i true).getD k true=true->∀e∈o.after,Region.binds .any e=true->(bc.setIfInBounds i true).getD e.on true=true):=fun i o aA an k o' ei ao e he aj=>by
    have zQ:k<aF.size:=(lp.1 ei).1;have bx:e.on<aF.size:=by have:=n_ aF.toList 0 jD k o' e (by simpa using ei) he aj;omega
    have key:bc.getD e.on true=true->(bc.setIfInBounds i true).getD e.on true=true:=fun h=>by
     by_cases rE:i=e.on
     . subst rE;simp[gm,bx]
     . rw[getD_set_ne true rE];exact h
    by_cases gH:k=i
    . subst gH
      rw[aA] at ei;simp only[aW] at ei;subst ei;exact key ((fJ _ _ _ bx).trans (an e he aj))
    . rw[getD_set_ne true (gq gH)] at ao
      exact key (dg k o' ei ao e he aj)
   refine⟨fun rL=>?_,fun i hi=>?_⟩
   .
    have eg:∀m i,i<m->i<aF.size->bc.getD i true=true:=by
     intro m;induction m with
     |zero=>intro i h;exact absurd h (e8 i)
     |succ m x1=>
      intro i xA hi;cases hu:bc.getD i true with
      |true=>rfl
      |false=>
       have an:i∈Region.ready .any aF bc:=mem_ready.2 ⟨hu,aF[i],by simp[hi],fun e he aj=>by
        have bx:e.on<i:=by have:=n_ aF.toList 0 jD i aF[i] e (by simp[hi]) he aj;omega
        exact(fJ _ _ _ (by omega)).trans (x1 e.on (by omega) (by omega))⟩;rw[rL] at an;cases an
    have Ub:∀i,i<aF.size->bc.getD i true=true:=fun i hi=>eg (i+1) i (by omega) hi;have hm:aC+c=aF.size:=by
     rcases mR (aC+c) aF.size with bx|pl
     . have:=eD (aC+c) (cH _) bx
       rw[Ub _ bx] at this;cases this
     . omega
    rcases hq with⟨_,i3⟩|⟨o,aA,_⟩
    . refine gw da M a w Γ ⟨bl.gd,fun t=>?_,bl.size,bl.defers,bl.ext⟩ i3
      rw[<-cw.fin aC (fun i=>bc.getD i true) (fun i hi=>Ub (aC+i) (by simp at hi;omega)) t];exact bl.gV t
    . have:=(bo.1 aA).1
      omega
   . obtain⟨hu,o,aA,an⟩:=mem_ready.1 hi
     have fD:i<aF.size:=(lp.1 aA).1;obtain⟨o',co,ei,fh,px⟩:=nC i fD;rw[aA] at ei;simp only[aW] at ei;subst ei;have l7:∀j,iE aF j i->bc.getD j true=true:=fun j ap=>
      ss jD (L:=fun j=>bc.getD j true) dg (i+1) i (by omega) o aA (fun e he aj=>by
       have bx:e.on<i:=by have:=n_ aF.toList 0 jD i o e (by simpa using aA) he aj;omega
       exact(fJ _ _ _ (by omega)).trans (an e he aj)) j ap;have mA:∀k,k<aF.size->bc.getD k true=true->∀j,iE aF j k->bc.getD j true=true:=fun k ao gO j ap=>by
      obtain⟨ok,_,b7,_⟩:=nC k ao;exact ss jD (L:=fun j=>bc.getD j true) dg (k+1) k (by omega) ok b7 (dg k ok b7 gO) j ap
     by_cases xA:i<aC+c
     .
      have i6:aC<=i:=by
       rcases mR i aC with bx|pl
       . rw[gQ i bx] at hu;cases hu
       . exact pl
      obtain⟨d,rfl⟩:∃d,i=aC+d:=⟨i -aC,by omega⟩;have Dq:((bg.drop aC).take c)[d]? =some co:=by
       rw[hA (by omega),kW];exact fh
      have UT:∀j x,((bg.drop aC).take c)[j]? =some x->j<c/\bg[aC+j]? =some x:=fun j x ad=>by
       have sL:j<c:=by have:=(bo.1 ad).1;simp at this;omega
       rw[hA sL,kW] at ad;exact⟨sL,ad⟩
      obtain⟨v,aq,t6,AO,vi,Dz⟩:=cw.at d aC co Dq;have kG:∀t∈co.cQ,aX AO t=aX (iV (fun i=>bc.getD i true) aC ((bg.drop aC).take c) vs s) t:=fun t aV=>by
       rw[<-Dz t];refine Fh _ _ _ _ _ rfl fun j x ad vI=>?_;obtain⟨sL,vH⟩:=UT j x ad;rcases Nat.lt_trichotomy j d with bx|heq|tU
       . rw[decide_eq_true (by omega)]
         rcases i4 (aC+j) (aC+d) x co (by omega) vH fh with aj|eC
         . exact(l7 _ aj).symm
         . exact absurd aV ((lA eC).1 t vI)
       . subst heq
         rw[hu];simp
       . rw[decide_eq_false (by omega)]
         rcases i4 (aC+d) (aC+j) co x (by omega) fh vH with aj|eC
         . cases ag:bc.getD (aC+j) true with
           |false=>rfl
           |true=>rw[mA _ (by omega) ag _ aj] at hu;cases hu
         . exact absurd aV ((lA eC).2.2 t vI)
      have xx:=vi.move t6 kG;refine wx aA px bl xx ?_;rintro aO ah dt w' Γ' ct ⟨la,rfl⟩;refine bu (bc.setIfInBounds (aC+d) true) dt w' Γ' aC c vs s da ah (nz _ fD hu) (by simp[gm]) (ny _ o aA an) UD (fun j ap=>?_) (fun j ap ix=>?_) kp cw hq ?_
      . rw[getD_set_ne true (by omega)];exact gQ j ap
      . rw[getD_set_ne true (by omega)];exact eD j ap ix
      . refine⟨ct.gd,fun t=>?_,ct.size,ct.defers,ct.ext⟩
        have:=ct.gV t;rw[la t,hd] at this;have e:aX (iV (fun i=>(bc.setIfInBounds (aC+d) true).getD i true) aC ((bg.drop aC).take c) vs s) t=if co.dst=some t then v else aX (iV (fun i=>bc.getD i true) aC ((bg.drop aC).take c) vs s) t:=by
         split
         . rename_i aw
           refine Qd _ _ _ d _ Dq aq aw (by simp[gm,fD]) fun j x aRu ad vI=>?_;obtain⟨sL,vH⟩:=UT j x ad;rw[getD_set_ne true (by omega)];rcases i4 (aC+d) (aC+j) co x (by omega) fh vH with aj|eC
           . cases ag:bc.getD (aC+j) true with
             |false=>rfl
             |true=>rw[mA _ (by omega) ag _ aj] at hu;cases hu
           . exact absurd vI ((lA eC).2.1 t aw)
         . rename_i aw
           refine Fh _ _ _ _ _ rfl fun j x ad vI=>?_;by_cases lJ:j=d
           . subst lJ
             rw[Dq] at ad;simp only[aW] at ad;subst ad;exact absurd vI aw
           . rw[getD_set_ne true (by omega)]
        rw[e];exact this
     .
      rcases hq with⟨hm,_⟩|⟨hQ,jX,t8,qt⟩
      . omega
      . have xE:aC+c<aF.size:=by have:=(bo.1 jX).1;omega
        obtain⟨Up,og⟩:=aIj (aC+c) xE t8;have xz:i=aC+c:=by
         rcases mR (aC+c) i with bx|pl
         . have:=l7 _ (og i bx fD)
           rw[eD (aC+c) (cH _) xE] at this;cases this
         . omega
        subst xz;rw[fh] at jX;simp only[aW] at jX;subst jX;have eg:∀j,j<aC+c->bc.getD j true=true:=fun j ap=>l7 j (Up j ap);have rM:cF w0 Γ0 n w Γ da M a:=⟨bl.gd,fun t=>by
         rw[<-cw.fin aC (fun i=>bc.getD i true) (fun i hi=>eg (aC+i) (by have:=List.length_take_le c (bg.drop aC);omega)) t];exact bl.gV t,bl.size,bl.defers,bl.ext⟩;refine wx aA px rM qt ?_;intro aO ah dt w' Γ' ct aJt;obtain⟨cK,Pq,oK,rz,aKq,xN,Un⟩:=Od _ _ aO (by simp;omega) (aJr _) aJt;simp only[List.length_drop] at rz Un;refine bu (bc.setIfInBounds (aC+c) true) dt w' Γ' (aC+c+1) cK Pq aO oK ah (nz _ fD hu) (by simp[gm]) (ny _ o aA an) (by omega) (fun j ap=>?_) (fun j ap ix=>?_) aKq xN ?_ ?_
        . by_cases UC:j=aC+c
          . subst UC;simp[gm,fD]
          . rw[getD_set_ne true (gq UC)];exact eg j (by omega)
        . rw[getD_set_ne true (by omega)];exact eD j (by omega) ix
        . rcases Un with⟨aa,af⟩|⟨us,aa,af,az⟩
          . exact .inl ⟨by omega,af⟩
          . rw[kW] at aa af
            rw[List.drop_drop,List.drop_drop] at az;exact .inr ⟨us,aa,af,by rwa [show aC+c+1+cK+1=aC+c+1+(cK+1) from by omega]⟩
        . refine⟨ct.gd,fun t=>?_,ct.size,ct.defers,ct.ext⟩
          rw[Fi]
          . exact ct.gV t
          . intro j ap
            have po:j<cK:=by simp at ap;omega
            rw[getD_set_ne true (by omega)];exact eD (aC+c+1+j) (by omega) (by omega)
 refine wp_region_any Do ?_;have mc:cF w0 Γ0 n w.drew Γ s M a:=vE.qB vE.gd.drew (Ext.drew w Γ);obtain⟨c,vs,da,ar,kp,cw,hq⟩:=Od bg dR s (by omega) vx zZ;have a_:∀i,i<aF.size->(Array.replicate aF.size false).getD i true=false:=fun i hi=>by simp[hi]
 refine main aF.size _ a w.drew Γ 0 c vs s da M ?_ (by simp) ?_ (by omega) (fun i hi=>absurd hi (e8 i)) (fun i _ hi=>a_ i hi) kp (by simpa using cw) ?_ ?_
 . have:=List.countP_le_length (p:=fun i=>!(Array.replicate aF.size false).getD i true) (l:=c5 aF.size)
   simpa using this
 . intro k o aA ao
   rw[a_ k (lp.1 aA).1] at ao;cases ao
 . simpa[Ng] using hq
 . refine⟨mc.gd,fun t=>?_,mc.size,mc.defers,mc.ext⟩
   rw[Fi]
   . exact mc.gV t
   . intro i hi
     rw[ee];exact a_ i (by simp at hi;omega)
end
end Go.aL
namespace Go.aL
open Go.RowKit (Below)
section
variable{P:Program}{w0 w:World}{Γ0 Γ:Env}{M:Mem}{s dq:aI}{a:Act}{n:Nat}
theorem aMK{o:dM}{M:Mem}(h:∀t∈o.cQ,aX s t=aX dq t):m_ o s M=m_ o dq M:=by
 cases o<;>simp only[m_]<;>simp only[dM.cQ,g9] at h
 case box n x=>rw[dV h]
 case store n a x=>rw[dV (x:=a) fun t aV=>h t (.inl aV),dV (x:=x) fun t aV=>h t (.inr aV)]
 case rf z b cX=>rw[FO h]
 case v3 z b l c=>rw[dV (x:=l) fun t aV=>h t (.inl aV),dV (x:=c) fun t aV=>h t (.inr aV)]
 case makeSlice z a b l c=>rw[dV (x:=l) fun t aV=>h t (.inl aV),dV (x:=c) fun t aV=>h t (.inr aV)]
 case append i a b x y=>rw[dV (x:=x) fun t aV=>h t (.inl aV),dV (x:=y) fun t aV=>h t (.inr aV)]
 case makeMap r=>rw[zp h]
 case mapUpdate c m k x=>rw[dV (x:=m) fun t aV=>h t (.inl aV),dV (x:=k) fun t aV=>h t (.inr (.inl aV)),dV (x:=x) fun t aV=>h t (.inr (.inr aV))]
 case mapEntry c z m k=>rw[dV (x:=m) fun t aV=>h t (.inl aV),dV (x:=k) fun t aV=>h t (.inr aV)]
 case entryStore m st x=>rw[dV (x:=m) fun t aV=>h t (.inl aV),dV (x:=st) fun t aV=>h t (.inr (.inl aV)),dV (x:=x) fun t aV=>h t (.inr (.inr aV))]
 case copy sz d x=>rw[dV (x:=d) fun t aV=>h t (.inl aV),dV (x:=x) fun t aV=>h t (.inr aV)]
 case rV x=>rw[dV h]
 case um x=>rw[dV h]
 case uF sz x y z=>rw[dV (x:=x) fun t aV=>h t (.inl aV),dV (x:=y) fun t aV=>h t (.inr (.inl aV)),dV (x:=z) fun t aV=>h t (.inr (.inr aV))]
 case oG n x y=>rw[dV (x:=x) fun t aV=>h t (.inl aV),dV (x:=y) fun t aV=>h t (.inr aV)]
 case ux x=>rw[dV h]
 case tx x=>rw[dV h]
 case uk x=>rw[dV h]
theorem aQK{op:dM}{dst:Option Nat}{bz:Bool}{K:aI->Mem->Prop}(ag:∀t∈op.cQ,aX s t=aX dq t)(h:wpOp P false op dst bz s M K):
 wpOp P false op dst bz dq M (fun aO ah=>∃v,aO=bA dq dst v/\K (bA s dst v) ah):=by
 cases ar:op.jH with
 |true=>
  have key:∀(f:Nat)(args:List V),oQ P false f args M (fun dT ah=>kN s dst bz dT (fun aO=>K aO ah))->
   oQ P false f args M (fun dT ah=>kN dq dst bz dT (fun aO=>∃v,aO=bA dq dst v/\K (bA s dst v) ah)):=fun f args h=>
   b9.mono h fun dT ah ay=>by
    rw[v9] at ay⊢;exact⟨ay.1,dT,rfl,ay.2⟩
  cases op<;>simp only[dM.jH,jh] at ar
  case call f args=>
   simp only[dM.cQ] at ag;have h:oQ P false f (e_ s args) M _:=h;rw[w9 ag] at h;exact key _ _ h
  case fX jB args=>
   simp only[dM.cQ,g9] at ag;have h:mP P false (aP s jB) (e_ s args) M _:=h;rw[w9 (xs:=args) fun t aV=>ag t (.inr aV),dV (x:=jB) fun t aV=>ag t (.inl aV)] at h;show mP P false (aP dq jB) (e_ dq args) M _;unfold mP at h⊢;split at h
   . exact key _ _ h
   . exact key _ _ h
   . exact h.elim
 |false=>
  cases hm:op.ht with
  |false=>
   rw[yR hm ar] at*;obtain⟨v,aa,af,az⟩:=h;exact⟨v,by rw[<-WD ag];exact aa,af,v,rfl,az⟩
  |true=>
   by_cases t7:∃x,op=.rW x
   . obtain⟨x,rfl⟩:=t7
     have h:sf (aP s x) M (fun v ah=>K (bA s dst v) ah):=h;rw[dV ag] at h;show sf (aP dq x) M (fun v ah=>∃dT,bA dq dst v=bA dq dst dT/\K (bA s dst dT) ah);exact aQJ h fun v ah aq=>⟨v,rfl,aq⟩
   by_cases pu:∃n x y,op=.oG n x y
   . obtain⟨n,x,y,rfl⟩:=pu
     have h:th n (aP s x) (aP s y) M (fun v ah=>K (bA s dst v) ah):=h;simp only[dM.cQ,g9] at ag;rw[dV (x:=x) fun t aV=>ag t (.inl aV),dV (x:=y) fun t aV=>ag t (.inr aV)] at h;show th n (aP dq x) (aP dq y) M (fun v ah=>∃dT,bA dq dst v=bA dq dst dT/\K (bA s dst dT) ah);exact aQL h fun v ah aq=>⟨v,rfl,aq⟩
   have e:∀(s:aI)(K:aI->Mem->Prop),wpOp P false op dst bz s M K=tp (m_ op s M) (fun v ah=>K (bA s dst v) ah):=by
    intro s K;cases op<;>first|(exact absurd ⟨_,rfl⟩ t7)|(exact absurd ⟨_,_,_,rfl⟩ pu)|first|rfl|(simp[dM.jH] at ar;done)|(simp[dM.ht] at hm;done)
   rw[e] at h⊢;rw[<-aMK ag];unfold tp at h⊢;split at h
   . exact⟨_,rfl,h⟩
   . exact h.elim
def jA(bg:List bw)(i:Nat):Option Nat:=
 match bg[i]? with
 |some o=>o.dst
 |none=>none
def bQ(bg:List bw)(val:Nat->V)(L:Nat->Bool)(s0:aI):Nat->aI
 |0=>s0
 |i+1=>bif L i then bA (bQ bg val L s0 i) (jA bg i) (val i) else bQ bg val L s0 i
theorem hn{bg:List bw}{val val':Nat->V}{L L':Nat->Bool}{s0 s0':aI}{t:Nat}:∀m,aX s0 t=aX s0' t->(∀i,i<m->jA bg i=some t->L i=L' i/\(L i=true->val i=val' i))->
 aX (bQ bg val L s0 m) t=aX (bQ bg val' L' s0' m) t
 |0,h,_=>h
 |m+1,h,cV=>by
  have bu:=hn (val:=val) (val':=val') (L:=L) (L':=L') m h fun i hi aw=>cV i (by omega) aw;simp only[bQ];by_cases aw:jA bg m=some t
  . obtain⟨aa,af⟩:=cV m (by omega) aw
    rw[<-aa];cases ag:L m with
    |false=>exact bu
    |true=>simp only[cond_true,hd,aw,if_true];exact af ag
  . cases L m<;>cases L' m<;>simp only[cond_true,cond_false,hd,if_neg aw]<;>exact bu
theorem sr{bg:List bw}{val:Nat->V}{L:Nat->Bool}{s0:aI}{i:Nat}:∀m,i<=m->(∀j,i<=j->j<m->L j=false)->bQ bg val L s0 m=bQ bg val L s0 i
 |0,h,_=>by have:i=0:=by omega
            rw[this]
 |m+1,h,cV=>by
  by_cases hi:i=m+1
  . rw[hi]
  . simp only[bQ,cV m (by omega) (by omega),cond_false]
    exact sr m (by omega) fun j aa af=>cV j aa (by omega)
theorem Fu{bg:List bw}{val:Nat->V}{L L':Nat->Bool}{s0:aI}{i t:Nat}(hi:L i=false)(hi':L' i=true)(ak:∀j,j≠i->L' j=L j):∀m,i<m->
 (∀j,i<j->j<m->jA bg j=some t->jA bg i=some t->L j=false)->
 aX (bQ bg val L' s0 m) t=if jA bg i=some t then val i else aX (bQ bg val L s0 m) t
 |0,h,_=>absurd h (e8 i)
 |m+1,h,aK=>by
  by_cases xA:i=m
  . subst xA
    simp only[bQ,hi,hi',cond_true,cond_false,hd];split
    . rfl
    . exact hn _ rfl fun j ap _=>⟨ak j (by omega),fun _=>rfl⟩
  . have bu:=Fu (bg:=bg) (val:=val) (s0:=s0) hi hi' ak m (by omega) fun j aa af=>aK j aa (by omega)
    simp only[bQ,ak m (gq xA)];cases ag:L m with
    |false=>exact bu
    |true=>
     simp only[cond_true,hd];by_cases aw:jA bg m=some t
     . simp only[if_pos aw]
       split
       . rename_i k_
         rw[aK m (by omega) (by omega) aw k_] at ag;cases ag
       . rfl
     . simp only[if_neg aw];exact bu
theorem aDD{o:bw}{v:V}(hm:o.op.ht=false)(ar:o.op.jH=false)(aB:o.guard=none){ah:Mem}(h:gr P o s M v)(aw:o.dst≠none)(ay:hU o.op s ah=some v):gr P o s ah v:=by
 obtain⟨dst,op,bz,g⟩:=o;simp only at aB hm ar ay aw;subst aB;unfold gr hz at h⊢;simp only at h⊢;rw[yR hm ar] at h⊢;obtain⟨dT,aa,af,az,_⟩:=h;refine⟨v,ay,fun aj=>?_,fun _=>rfl,rfl⟩;obtain⟨b,rfl⟩:=af aj;cases dst with
 |none=>exact absurd rfl aw
 |some d=>
  have:=az d;simp only[hd,if_true] at this;exact⟨b,this.symm⟩
theorem RL{o:bw}{v:V}(hm:o.op.ht=false)(ar:o.op.jH=false∨o.op.x2=true)(aB:o.guard=none){ah:Mem}(h:gr P o s M v)(aw:o.dst≠none)(ay:go P o s v ah):gr P o s ah v:=by
 rcases ar with ar|ar
 . refine aDD hm ar aB h aw ?_
   obtain⟨dst,op,bz,g⟩:=o;cases op<;>first|exact ay|cases ar
 . obtain⟨dst,op,bz,g⟩:=o
   simp only at aB aw;subst aB;cases op<;>simp only[dM.x2,jh] at ar;rename_i f args;obtain⟨ay,aj⟩:b9 P f (e_ s args) ah (fun x mr=>x=v/\mr=ah)/\(bz=true->∃b,v=.bool b):=ay;show b9 P f (e_ s args) ah (fun dT mr=>kN s dst bz dT (fun aO=>k1 (bA s dst v) ah aO mr));refine ay.mono ?_;rintro _ _ ⟨rfl,rfl⟩;rw[v9];exact⟨aj,fun _=>rfl,rfl⟩
def uR(P:Program)(bg:List bw)(bL:List (Option (List Nat)))(val:Nat->V)(s0:aI)(H:List (Nat×(Mem->Prop)))(q:Nat):Prop:=
 ∀i o,i<q->bg[i]? =some o->bL[i]? =some none->o.guard=none->o.dst≠none->∀ah,nL H i ah->gr P o (bQ bg val (fun _=>true) s0 i) ah (val i)
theorem BF{bg:List bw}{bL:List (Option (List Nat))}{K:aI->Mem->Prop}{s0:aI}(hlen:bg.length=bL.length)(bl:∀(i:Nat)(o:bw),bg[i]? =some o->bL[i]? =some none->o.op.ht=false/\(o.op.jH=false∨o.op.x2=true)):
 ∀(m q:Nat)(val:Nat->V)(H:List (Nat×(Mem->Prop)))(s:aI),bg.length -q=m->q<=bg.length->uR P bg bL val s0 H q->(∀t,aX s t=aX (bQ bg val (fun _=>true) s0 q) t)->mm P (bg.drop q) (bL.drop q) q H s M K->
 ∃(p:Nat)(val':Nat->V)(gb:List (Nat×(Mem->Prop)))(da:aI),q<=p/\p<=bg.length/\(∀i,i<q->val' i=val i)/\uR P bg bL val' s0 gb p/\(∀t,aX da t=aX (bQ bg val' (fun _=>true) s0 p) t)/\
  (∀i,q<=i->i<p->∃o,bg[i]? =some o/\bL[i]? =some none/\gr P o (bQ bg val' (fun _=>true) s0 i) M (val' i))/\
  ((p=bg.length/\K da M)∨∃o l,bg[p]? =some o/\bL[p]? =some (some l)/\hz P false o da M (fun aO ah=>kP gb l ah/\mm P (bg.drop (p+1)) (bL.drop (p+1)) (p+1) gb aO ah K))
 |0,q,val,H,s,hm,aG,gl,ak,h=>by
  have e:q=bg.length:=by omega
  subst e;rw[List.drop_length,List.drop_eq_nil_of_le (by omega)] at h;exact⟨bg.length,val,H,s,cH _,cH _,fun _ _=>rfl,gl,ak,fun i aa af=>by omega,.inl ⟨rfl,h⟩⟩
 |m+1,q,val,H,s,hm,aG,gl,ak,h=>by
  have Nx:q<bg.length:=by omega
  have my:bg.drop q=bg[q]::bg.drop (q+1):=qU Nx;have wZ:bL.drop q=bL[q]'(by omega)::bL.drop (q+1):=qU (by omega);have kl:bg[q]? =some bg[q]:=by simp
  have xl:bL[q]? =some (bL[q]'(by omega)):=by simp
  rw[my,wZ] at h;generalize bg[q]=o at*;generalize bL[q]'(by omega)=f at*;cases f with
  |some l=>exact⟨q,val,H,s,cH _,aG,fun _ _=>rfl,gl,ak,fun i aa af=>by omega,.inr ⟨o,l,kl,xl,h⟩⟩
  |none=>
   obtain⟨oh,tN⟩:=bl q o kl xl;simp only[mm] at h;obtain⟨v,aO,aa,af,az⟩:=Pw oh h;have cut:∀i,i<=q->∀t,aX (bQ bg (fun i=>if i=q then v else val i) (fun _=>true) s0 i) t=aX (bQ bg val (fun _=>true) s0 i) t:=fun i hi t=>
    hn i rfl fun j ap _=>⟨rfl,fun _=>if_neg (by omega)⟩;have MZ:jA bg q=o.dst:=by simp only[jA,kl]
   obtain⟨p,val',gb,da,bI,ce,dS,ft,fl,ij,m6⟩:=BF hlen bl m (q+1) (fun i=>if i=q then v else val i) ((q,go P o s (p8 aO o.dst))::H) aO (by omega) (by omega) (by
    intro i x hi ad aD aB aw ah ag;by_cases rG:i=q
    . subst rG
      rw[kl] at ad;simp only[aW] at ad;subst ad;have e:ey i i=true:=by simp
      simp only[nL,e] at ag;obtain⟨d,ph⟩:∃d,o.dst=some d:=Option.ne_none_iff_exists'.1 aw;have aq:p8 aO o.dst=v:=by rw[ph,p8,af d,hd,if_pos ph]
      rw[aq] at ag;have:=RL oh tN aB aa aw ag;simp only[if_true];exact this.move oh fun t _=>(ak t).trans (cut i (cH _) t).symm
    . have e:ey q i=false:=by
       cases aj:ey q i with
       |false=>rfl
       |true=>exact absurd (oV aj).symm rG
      simp only[nL,e] at ag;have:=gl i x (by omega) ad aD aB aw ah ag;show gr P x _ ah (if i=q then v else val i);rw[if_neg rG];exact this.move (bl i x ad aD).1 fun t _=>(cut i (by omega) t).symm) (fun t=>by
    rw[af t];simp only[bQ,cond_true,MZ,if_true];rw[hd,hd,ak t,cut q (cH _) t]) az;refine⟨p,val',gb,da,by omega,ce,fun i hi=>(dS i (by omega)).trans (if_neg (by omega)),ft,fl,fun i vq mE=>?_,m6⟩;by_cases rG:i=q
   . subst rG
     refine⟨o,kl,xl,?_⟩;have aq:val' i=v:=(dS i (by omega)).trans (if_pos rfl);rw[aq];refine aa.move oh fun t _=>?_;rw[ak t];exact hn i rfl fun j ap _=>⟨rfl,fun _=>((dS j (by omega)).trans (if_neg (by omega))).symm⟩
   . exact ij i (by omega) mE
theorem EH{H:List (Nat×(Mem->Prop))}{ah:Mem}:∀{l:List Nat},kP H l ah->∀i∈l,nL H i ah
 |[],_,i,hi=>by simp at hi
 |j::l,h,i,hi=>by
  rcases jt.1 hi with rfl|hi
  . exact h.1
  . exact EH h.2 i hi
def K8(fK:Bool)(aF:Array Oper)(bk:List bw)(bL:List (Option (List Nat)))(aS:Nat->Nat)(p:Nat):Prop:=
 fK=false/\p+1<aF.size/\∃d1 h7 d2 hj e4,bk[p]? =some ⟨some d1,.alloc h7,false,none⟩/\bk[p+1]? =some ⟨some d2,.alloc hj,false,none⟩/\bL[p+1]? =some (some e4)/\
  ∀i,p+1<i->i<aF.size->iE aF (aS p) (aS i)/\iE aF (aS (p+1)) (aS i)
theorem Ww{o:bw}(h:Ke o=true):∃d z,o=⟨some d,.alloc z,false,none⟩:=by
 unfold Ke at h;split at h
 . exact⟨_,_,rfl⟩
 . cases h
structure wy(fK:Bool)(lo:Nat)(aF:Array Oper)(bg bk:List bw)(bL:List (Option (List Nat)))(aS:Nat->Nat):Prop where
 len:bk.length=aF.size
 zs:bL.length=aF.size
 back:tw 0 aF.toList=true
 lt:∀i,i<aF.size->aS i<aF.size
 inj:∀i j,i<aF.size->j<aF.size->aS i=aS j->i=j
 yE:∀k,k<aF.size->∃i,i<aF.size/\aS i=k
 get:∀i,i<aF.size->bk[i]? =bg[aS i]?
 apart:∀(i k:Nat)(x y:bw),i<k->k<aF.size->bk[i]? =some x->bk[k]? =some y->iE aF (aS i) (aS k)∨x.sq y=true
 still:∀(i:Nat)(o:bw),bk[i]? =some o->bL[i]? =some none->o.op.ht=false/\(o.op.jH=false∨(fK=true/\o.op.x2=true))
 aP:∀(p:Nat)(o:bw)(l:List Nat),lo<=p->bk[p]? =some o->bL[p]? =some (some l)->o.guard=none/\((∀i,p<i->i<aF.size->iE aF (aS p) (aS i))∨K8 fK aF bk bL aS p)/\
  ∀(j:Nat)(x:bw),j<p->bk[j]? =some x->iE aF (aS j) (aS p)∨(j+1=p/\K8 fK aF bk bL aS j)∨(j∈l/\x.guard=none/\x.dst≠none/\bL[j]? =some none)
theorem wy.AQ{fK:Bool}{lo:Nat}{aF:Array Oper}{bg bk:List bw}{bL:List (Option (List Nat))}{aS:Nat->Nat}(h:wy fK lo aF bg bk bL aS):∀(i:Nat)(o:bw),bk[i]? =some o->bL[i]? =some none->o.op.ht=false/\(o.op.jH=false∨o.op.x2=true):=fun i o aa af=>
 ⟨(h.still i o aa af).1,(h.still i o aa af).2.imp id fun q=>q.2⟩
theorem TH{fK:Bool}{lo:Nat}{aF:Array Oper}{bg:List bw}{aS:List Nat}(aa:ey aS.length bg.length=true)(af:ey bg.length aF.size=true)(az:tw 0 aF.toList=true)
 (bh:∀k,k<bg.length->nG aS k=true)(bC:∀k,k<bg.length->iw (aS.getD k 0) bg.length=true/\∀i,i<k->(!ey (aS.getD i 0) (aS.getD k 0))=true)
 (ca:∀k,k<bg.length->∀i,i<k->(n9 (gF aF.toList []) aS i k||((aS.map fun i=>bg.getD i default).getD i default).sq ((aS.map fun i=>bg.getD i default).getD k default))=true)
 (dY:∀p,p<bg.length->(lo<=p∨(oc (gF aF.toList []) aS (bg.map (oa fK)) bg.length).getD p none=none)->AD fK (gF aF.toList []) aS (oc (gF aF.toList []) aS (bg.map (oa fK)) bg.length) (aS.map fun i=>bg.getD i default) bg.length p=true):
 wy fK lo aF bg (aS.map fun i=>bg.getD i default) (oc (gF aF.toList []) aS (bg.map (oa fK)) bg.length) (fun i=>aS.getD i 0):=by
 have a4:aS.length=bg.length:=oV aa;have bd:bg.length=aF.size:=oV af;have bx:∀k,k<aF.size->aS.getD k 0<aF.size:=fun k ao=>by
  have:=(bC k (by omega)).1;rw[Nat.blt_eq] at this;omega
 have Uz:∀i k,i<k->k<aF.size->aS.getD i 0≠aS.getD k 0:=fun i k i6 ao e=>by
  have:=(bC k (by omega)).2 i i6;rw[e] at this;simp at this
 have aB:∀i,i<aF.size->(aS.map fun i=>bg.getD i default)[i]? =bg[aS.getD i 0]? :=fun i hi=>by
  have hi':i<aS.length:=by omega
  have ag:=bx i hi;rw[gX,gg hi',lY];have e:aS.getD i 0=aS[i]:=by simp[kV,hi']
  rw[e] at ag⊢;rw[gg (by omega)];simp[kV,show aS[i]<bg.length by omega]
 have d4:∀i x,(aS.map fun i=>bg.getD i default)[i]? =some x->(aS.map fun i=>bg.getD i default).getD i default=x:=fun i x ad=>by
  rw[kV,ad];rfl
 have bN:∀p,p<aF.size->∀d,(oc (gF aF.toList []) aS (bg.map (oa fK)) bg.length).getD p d=((oc (gF aF.toList []) aS (bg.map (oa fK)) bg.length)[p]?).getD d:=fun p _ d=>by rw[kV]
 have bU:∀i k,n9 (gF aF.toList []) aS i k=true->iE aF (aS.getD i 0) (aS.getD k 0):=fun i k aj=>aj;refine⟨by simp;omega,by simp[oc];omega,az,bx,?_,?_,aB,?_,?_,?_⟩
 . intro i j hi ap e
   rcases Nat.lt_trichotomy i j with h|h|h
   . exact absurd e (Uz i j h ap)
   . exact h
   . exact absurd e.symm (Uz j i h hi)
 . intro k ao
   have:=Am.1 (bh k (by omega));obtain⟨i,hi,rfl⟩:=List.getElem_of_mem this;exact⟨i,by omega,by simp[kV,hi]⟩
 . intro i k x y i6 ao ad aE
   have:=ca k (by omega) i i6;rw[d4 i x ad,d4 k y aE,Bool.or_eq_true] at this;rcases this with h|h
   . exact .inl (bU _ _ h)
   . exact .inr h
 . intro i o aA aD
   have hi:i<aF.size:=by
    have:=(bo.1 aA).1;simp at this;omega
   have:=dY i (by omega) (.inr (by rw[kV,aD];rfl));unfold AD at this;rw[bN i hi,aD] at this;simp only[Option.getD_some] at this;rw[d4 i o aA] at this;simp only[oa,lV,Bool.or_eq_false_iff,Bool.and_eq_false_iff,Bool.not_eq_false',cc] at this;exact this
 . intro p o l gQ aA aD
   have ay:p<aF.size:=by
    have:=(bo.1 aA).1;simp at this;omega
   have:=dY p (by omega) (.inl gQ);unfold AD at this;rw[bN p ay,aD] at this;simp only[Option.getD_some] at this;rw[d4 p o aA] at this;simp only[cc,List.all_eq_true,ka] at this;obtain⟨⟨aT,a2⟩,bJ⟩:=this;have vz:∀x:bw,ur x=true->x.guard=none:=fun x ad=>by
    unfold ur at ad;split at ad
    . assumption
    . cases ad
   have US:∀q,Ka fK (gF aF.toList []) aS (oc (gF aF.toList []) aS (bg.map (oa fK)) bg.length) (aS.map fun i=>bg.getD i default) bg.length q=true->
    K8 fK aF (aS.map fun i=>bg.getD i default) (oc (gF aF.toList []) aS (bg.map (oa fK)) bg.length) (fun i=>aS.getD i 0) q:=fun q aG=>by
    unfold Ka at aG;simp only[cc,List.all_eq_true,ka] at aG;obtain⟨⟨⟨⟨⟨gT,dx⟩,dm⟩,hc⟩,s3⟩,Kj⟩:=aG;have gT:fK=false:=by simpa using gT
    have dx:=o2.1 dx;have TO:∀k,k<aF.size->∃x,(aS.map fun i=>bg.getD i default)[k]? =some x:=fun k ao=>by
     exact⟨_,gg (by simp;omega)⟩
    obtain⟨h6,mf⟩:=TO q (by omega);obtain⟨KP,Vf⟩:=TO (q+1) (by omega);rw[d4 q h6 mf] at dm;rw[d4 (q+1) KP Vf] at hc;obtain⟨d1,h7,rfl⟩:=Ww dm;obtain⟨d2,hj,rfl⟩:=Ww hc;rw[bN (q+1) (by omega)] at s3;refine⟨gT,by omega,d1,h7,d2,hj,?_⟩;cases g3:(oc (gF aF.toList []) aS (bg.map (oa fK)) bg.length)[q+1]? with
    |none=>rw[g3] at s3;simp at s3
    |some f=>
     rw[g3] at s3;cases f with
     |none=>simp at s3
     |some e4=>
      refine⟨e4,mf,Vf,rfl,fun i vq mE=>?_⟩;have:=Kj i (by omega);rw[show iw (q+1) i=true from o2.2 vq] at this;simp only[Bool.not_true,Bool.false_or,cc] at this;exact⟨bU _ _ this.1,bU _ _ this.2⟩
   refine⟨vz o aT,?_,fun j x ap ad=>?_⟩
   . rcases Bool.or_eq_true _ _|>.mp a2 with a2|a2
     . refine .inl fun i sR hi=>?_
       have:=List.all_eq_true.1 a2 i (ka.2 (by omega));rw[show iw p i=true from o2.2 sR] at this;exact bU _ _ (by simpa using this)
     . exact .inr (US p a2)
   . have:=bJ j ap
     rw[d4 j x ad,Bool.or_eq_true,Bool.or_eq_true] at this;rcases this with(h|h)|h
     . exact .inl (bU _ _ h)
     . simp only[cc] at h
       exact .inr (.inl ⟨oV h.1,US j h.2⟩)
     . simp only[cc] at h
       obtain⟨⟨⟨bI,ce⟩,dS⟩,ft⟩:=h;refine .inr (.inr ⟨Am.1 bI,vz x ce,(fun e=>by rw[e] at dS;cases dS),?_⟩);rw[bN j (by omega)] at ft;cases HP:(oc (gF aF.toList []) aS (bg.map (oa fK)) bg.length)[j]? with
       |none=>rw[HP] at ft;simp at ft
       |some f=>
        rw[HP] at ft;cases f with
        |none=>rfl
        |some l=>simp at ft
theorem aMy{fK:Bool}{aF:Array Oper}{bg bk:List bw}{bL:List (Option (List Nat))}(h:JY fK aF bg=some (bk,bL)):∃aS,wy fK 0 aF bg bk bL aS:=by
 unfold JY at h;simp only at h;split at h
 . cases h
 . rename_i aS vr
   obtain⟨ar,he⟩:=fg h;simp only[d_] at he;obtain⟨rfl,rfl⟩:=he;simp only[cc,List.all_eq_true,ka] at ar;obtain⟨⟨⟨⟨⟨⟨aa,af⟩,az⟩,bh⟩,bC⟩,ca⟩,dY⟩:=ar;exact⟨_,TH aa af az bh bC ca fun p ay _=>dY p ay⟩
abbrev Y0(lo:Nat)(P:Program)(w0:World)(Γ0:Env)(n:Nat)(aF:Array Oper)(bk:List bw)(bL:List (Option (List Nat)))(aS:Nat->Nat)(s:aI)(K:aI->Mem->Prop)(Q:Exit->Act->World->Prop)(fuel:Nat):Prop:=
 ∀(bc:Array Bool)(a:Act)(w:World)(Γ:Env)(p:Nat)(val:Nat->V)(H:List (Nat×(Mem->Prop)))(da:aI)(M:Mem),
    (c5 aF.size).countP (fun i=>!bc.getD i true)<=fuel->bc.size=aF.size->
    (∀k o,aF[k]? =some o->bc.getD k true=true->∀e∈o.after,Region.binds .any e=true->bc.getD e.on true=true)->
    lo<=p->p<=aF.size->(∀i,p<=i->i<aF.size->bc.getD (aS i) true=false)->
    (∀i,i<p->bc.getD (aS i) true=false->∃o,bk[i]? =some o/\bL[i]? =some none/\gr P o (bQ bk val (fun _=>true) s i) M (val i))->
    uR P bk bL val s H p->(∀t,aX da t=aX (bQ bk val (fun _=>true) s p) t)->
    ((p=aF.size/\K da M)∨∃o l,bk[p]? =some o/\bL[p]? =some (some l)/\hz P false o da M (fun aO ah=>kP H l ah/\mm P (bk.drop (p+1)) (bL.drop (p+1)) (p+1) H aO ah K))->
    cF w0 Γ0 n w Γ (bQ bk val (fun i=>bc.getD (aS i) true) s p) M a->
    wpAny P .any aF Q fuel bc a w
abbrev YY(fK:Bool)(lo:Nat)(P:Program)(w0:World)(Γ0:Env)(n:Nat)(aF:Array Oper)(bk:List bw)(bL:List (Option (List Nat)))(aS:Nat->Nat)(s:aI)(K:aI->Mem->Prop)(Q:Exit->Act->World->Prop)(fuel:Nat):Prop:=
 ∀(bc:Array Bool)(a:Act)(w:World)(Γ:Env)(p:Nat)(val:Nat->V)(H:List (Nat×(Mem->Prop)))(da:aI)(M:Mem)(d1:Nat)(h7:List V)(d2:Nat)(hj:List V)(cZ e4:List Nat),
    fK=false->(c5 aF.size).countP (fun i=>!bc.getD i true)<=fuel->bc.size=aF.size->
    (∀k o,aF[k]? =some o->bc.getD k true=true->∀e∈o.after,Region.binds .any e=true->bc.getD e.on true=true)->
    lo<=p->p+1<aF.size->bk[p]? =some ⟨some d1,.alloc h7,false,none⟩->bk[p+1]? =some ⟨some d2,.alloc hj,false,none⟩->bL[p]? =some (some cZ)->bL[p+1]? =some (some e4)->
    (∀i,p+1<i->i<aF.size->iE aF (aS p) (aS i))->
    bc.getD (aS (p+1)) true=true->(∀i,p<=i->i<aF.size->i≠p+1->bc.getD (aS i) true=false)->
    (∀i,i<p->bc.getD (aS i) true=false->∃o,bk[i]? =some o/\bL[i]? =some none/\gr P o (bQ bk val (fun _=>true) s i) M (val i))->
    uR P bk bL val s H p->(∀t,aX da t=aX (bQ bk val (fun _=>true) s p) t)->
    hz P false ⟨some d1,.alloc h7,false,none⟩ da M (fun aO ah=>kP H cZ ah/\mm P (bk.drop (p+1)) (bL.drop (p+1)) (p+1) H aO ah K)->
    cF w0 Γ0 n w Γ (eP (bQ bk val (fun i=>bc.getD (aS i) true) s p) d2 (.ptr (M.length+1) 0)) (M++[.dead,.box hj]) a->
    wpAny P .any aF Q fuel bc a w
theorem xk{M:Mem}{i:Nat}{B:a1}(h:M[i]? =some B)(L:Mem):(M++L)[i]? =some B:=by
 rw[gp (bo.1 h).1,h]
theorem aLQ{k:Nat}{bZ:Bool}{x v:V}{M:Mem}(L:Mem)(h:g4 k bZ x M=some v):g4 k bZ x (M++L)=some v:=by
 cases x<;>simp only[g4] at h⊢<;>first|exact h|skip
 case ptr id off=>
  cases a7:M[id]? with
  |none=>rw[a7] at h;cases h
  |some B=>rw[a7] at h;rw[xk a7];exact h
 case fq id ver row off=>
  cases a7:M[id]? with
  |none=>rw[a7] at h;cases h
  |some B=>rw[a7] at h;rw[xk a7];exact h
theorem aOy{k:Nat}{x:V}{r:List (List V)}{M:Mem}(L:Mem)(h:eK k M x=some r):eK k (M++L) x=some r:=by
 cases x<;>simp only[eK] at h⊢<;>first|exact h|skip
 case aZ id _ _ _=>
  cases a7:M[id]? with
  |none=>rw[a7] at h;cases h
  |some B=>rw[a7] at h;rw[xk a7];exact h
theorem aLB{x v:V}{M:Mem}(L:Mem)(h:iA x M=some v):iA x (M++L)=some v:=by
 cases x<;>simp only[iA] at h⊢<;>first|exact h|skip
 case aZ id _ _ _=>
  cases a7:M[id]? with
  |none=>rw[a7] at h;cases h
  |some B=>rw[a7] at h;rw[xk a7];exact h
theorem aKV{k:Nat}{x i v:V}{M:Mem}(L:Mem)(h:iz k x i M=some v):iz k x i (M++L)=some v:=by
 cases i<;>simp only[iz] at h⊢<;>first|exact h|skip
 case int qA q=>
  cases aw:decide (0<=q) with
  |false=>rw[aw] at h;cases h
  |true=>
   rw[aw] at h;simp only[cond_true] at h⊢;cases x<;>simp only at h⊢<;>first|exact h|skip
   case aZ id _ _ _=>
    cases a7:M[id]? with
    |none=>rw[a7] at h;cases h
    |some B=>rw[a7] at h;rw[xk a7];exact h
theorem aO9{k:Nat}{x v:V}{lo hi mx:Option V}{M:Mem}(L:Mem)(h:hf k x lo hi mx M=some v):hf k x lo hi mx (M++L)=some v:=by
 cases x<;>simp only[hf] at h⊢<;>first|exact h|skip
 case aZ id _ _ _=>
  cases a7:M[id]? with
  |none=>rw[a7] at h;cases mx<;>cases h
  |some B=>rw[a7] at h;rw[xk a7];exact h
theorem aMm{c:fv}{m key:V}{r:Option V}{M:Mem}(L:Mem)(h:m9 c M m key=some r):m9 c (M++L) m key=some r:=by
 unfold m9 at h⊢;cases ao:kI c key with
 |false=>rw[ao] at h;cases h
 |true=>
  rw[ao] at h;simp only[cond_true] at h⊢;cases m<;>simp only at h⊢<;>first|exact h|skip
  case map id=>
   cases a7:M[id]? with
   |none=>rw[a7] at h;cases h
   |some B=>rw[a7] at h;rw[xk a7];exact h
theorem aNx{o:dM}{v:V}{M:Mem}(L:Mem)(h:hU o s M=some v):hU o s (M++L)=some v:=by
 cases o<;>simp only[hU] at h⊢<;>first|exact h|exact aLQ L h|exact aLB L h|exact aKV L h|exact aO9 L h|skip
 case rh x=>
  unfold su at h⊢;cases an:eK 1 M (aP s x) with
  |none=>rw[an] at h;cases h
  |some r=>rw[an] at h;rw[aOy L an];exact h
 case lookup c z bZ ok m k=>
  unfold oA at h⊢;cases an:m9 c M (aP s m) (aP s k) with
  |none=>rw[an] at h;cases h
  |some r=>rw[an] at h;rw[aMm L an];exact h
theorem gr.app{o:bw}{v:V}(hm:o.op.ht=false)(ar:o.op.jH=false)(h:gr P o s M v)(L:Mem):gr P o s (M++L) v:=by
 obtain⟨dst,op,bz,g⟩:=o;have key:∀(s1 r:aI),wpOp P false op dst bz s1 M (k1 r M)->wpOp P false op dst bz s1 (M++L) (k1 r (M++L)):=fun s1 r h=>by
  rw[yR hm ar] at h⊢;obtain⟨dT,aa,af,az,_⟩:=h;exact⟨dT,aNx L aa,af,az,rfl⟩
 have Ed:∀(s1 r:aI),k1 r M s1 M->k1 r (M++L) s1 (M++L):=fun s1 r h=>⟨h.1,rfl⟩;unfold gr hz at h⊢;cases g with
 |none=>exact key _ _ h
 |some nv=>
  obtain⟨g,gW⟩:=nv;simp only at h⊢;cases aB:aX s g<;>rw[aB] at h<;>(try simp only at h)<;>(try simp only)<;>first|exact h.elim|skip
  case bool b=>
   cases gW<;>cases b<;>first|exact key _ _ h|exact Ed _ _ h
  case tuple vs=>
   cases vs with
   |nil=>exact Ed _ _ h
   |cons _ _=>exact h.elim
theorem abW(aB:Good w Γ M){o:Oper}{id:Nat}(a7:M[id]? =some .dead){e:TypeId}{z:List V}(aA:o.op=.alloc e)(a_:kT P e=some z):h_ P w Γ a o (.ptr id 0) (M.set id (.box z)):=by
 obtain⟨dU,aa,af⟩:=yT a_;obtain⟨l,ag⟩:=aB.aLV a7;obtain⟨aj,jE⟩:=aB.eL id l _ ag a7;have bx:id<Γ.c0.length:=(bo.1 ag).1;let l':Loc:=⟨w.heap.size,true,true,0,0,l.ver+1⟩
 have he:Ext w Γ (w.alloc (.cells dU.cells e)) (Γ.fm id l' Γ.S):=Ext.fm ag aj (by show l.ver<l.ver+1;omega) (fun b q ak=>⟨ak,wg (nA w _ (aB.r5 ak))⟩) ((Below.refl _ _).alloc aB.base _) (fun _ _ _ h=>h);refine⟨_,w.alloc (.cells dU.cells e),Γ.fm id l' Γ.S,?_,.inl ⟨.pointer (some ⟨w.heap.size,0,none⟩),rfl,.ptr id 0 l' (by simp only[Env.fm];rw[eB bx]) rfl rfl⟩,?_,he⟩
 . simp[execOp,aA,Instr.alloc,aa,newVar,newRow]
 . refine aB.fm ag he (fun k _ ao=>nA w _ ao) (fun i m hi hm aq=>⟨fun e=>?_,fun _ h=>h⟩) aB.base (fun b q ak=>?_) ⟨rfl,rfl,fun q ak=>aB.v5 q ak,dU.cells,e,heap_alloc_new w _,((af w Γ).1).ext he⟩
   . have:=aB.m7 hm aq
     rw[show m.b=w.heap.size from e] at this;omega
   . obtain⟨u,hu⟩:=aB.jL b q ak
     exact⟨u,(tu (nA w _ (aB.r5 ak))).trans hu⟩
theorem aOb{mu ld:Bool}{nh:TypeId}{op:Op}{z:List V}(h:gU P mu ld nh op=some (.alloc z)):∃e,op=.alloc e/\kT P e=some z:=by
 cases op
 case alloc e=>
  simp only[gU,dK] at h;obtain⟨Py,a_,he⟩:=h;cases he;exact⟨e,rfl,a_⟩
 case call c=>
  exfalso;obtain⟨callee,args,iP⟩:=c;cases callee with
  |builtin b=>
   simp only[gU] at h;unfold wb at h
   repeat' (split at h)
   all_goals first
    |contradiction
    |(cases h;done)
    |(simp only[dK] at h;obtain⟨_,_,h⟩:=h;cases h;done)
    |(simp only[aW] at h;cases h;done)
    |(obtain⟨_,_,_,_,h⟩:=hD h;cases h;done)
  |value f=>
   cases f with
   |func f=>
    simp only[gU,dK] at h;obtain⟨_,_,h⟩:=h;cases h
   |tmp t=>simp only[gU] at h;obtain⟨_,_,_,_,h⟩:=hD h;cases h
   |const c=>simp only[gU] at h;obtain⟨_,_,_,_,h⟩:=hD h;cases h
   |global g=>simp only[gU] at h;obtain⟨_,_,_,_,h⟩:=hD h;cases h
  |invoke r m=>simp[gU] at h
 all_goals
  exfalso;simp only[gU,reduceCtorEq] at h<;>(repeat' (split at h))<;>first
   |contradiction
   |(cases h;done)
   |(simp only[dK] at h;obtain⟨_,_,h⟩:=h;cases h;done)
   |(simp only[aW] at h;cases h;done)
   |(obtain⟨_,h⟩:=fg h;cases h;done)
   |(obtain⟨_,_,_,_,h⟩:=hD h;cases h;done)
theorem Yc{aF:Array Oper}{i:Nat}{o:Oper}{d:Nat}{z:List V}{mu:List Nat}(aA:aF[i]? =some o)(fs:s6 P n mu aF i o=some ⟨some d,.alloc z,false,none⟩)(bl:cF w0 Γ0 n w Γ s M a){id:Nat}(a7:M[id]? =some .dead)
 {next:Act->World->Prop}{Q:Exit->Act->World->Prop}(ao:∀dt w' Γ',cF w0 Γ0 n w' Γ' (eP s d (.ptr id 0)) (M.set id (.box z)) dt->next dt w'):Go.wpOp P aF Q i next a w:=by
 obtain⟨op,g,hb,aB,heq,aw⟩:=OF fs;simp only[bw.mk.injEq] at heq;obtain⟨jo,rfl,_,rfl⟩:=heq;obtain⟨e,aJF,a_⟩:=aOb hb;have fJ:o.guard=none:=by
  cases Na:o.guard with
  |none=>rfl
  |some nv=>
   obtain⟨j,gW⟩:=nv;rw[Na] at aB;simp only[yt,dK] at aB;obtain⟨_,_,h⟩:=aB;cases h
 have t9:Region.wanted o (yielded aF a.tmps)=true:=by simp[Region.wanted,fJ]
 unfold Go.wpOp;simp only[aA,t9,if_true];refine .inl ?_;obtain⟨r,w',Γ',cw,fs,pk,he⟩:=abW (P:=P) (a:=a) bl.gd a7 aJF a_;unfold Oper.wp;rw[cw];rcases fs with⟨bn,rfl,aq⟩|⟨_,aq⟩
 . rw[Oper.upon_value]
   have:=(bl.qB pk he).put (dst:=o.dst) aq aw;rw[<-jo] at this;rw[<-jo];exact ao _ _ _ this
 . cases aq
theorem Sw{aF:Array Oper}{bg bk:List bw}{bL:List (Option (List Nat))}{aS:Nat->Nat}{lo:Nat}{mu:List Nat}{Q:Exit->Act->World->Prop}{K:aI->Mem->Prop}{fK:Bool}(fs:pP P n mu aF 0 aF.toList=some bg)(bN:wy fK lo aF bg bk bL aS)
 (gw:∀aO ah dt w' Γ',cF w0 Γ0 n w' Γ' aO ah dt->K aO ah->Q .normal dt w'):∀fuel:Nat,Y0 lo P w0 Γ0 n aF bk bL aS s K Q fuel/\YY fK lo P w0 Γ0 n aF bk bL aS s K Q fuel:=by
 obtain⟨hlen,gx⟩:=EI _ _ _ fs;simp only[ee] at gx;have jD:=bN.back;have nC:∀i,i<aF.size->∃o co,aF[aS i]? =some o/\bk[i]? =some co/\s6 P n mu aF (aS i) o=some co:=fun i hi=>by
  have ag:=bN.lt i hi;obtain⟨co,aa,af⟩:=gx (aS i) (aF[aS i]) (by simp[ag]);exact⟨_,co,by simp[ag],by rw[bN.get i hi];exact aa,af⟩
 have tZ:bk.length=bL.length:=by rw[bN.len,bN.zs]
 intro fuel;have fin:∀(bc:Array Bool)(a:Act)(w:World)(Γ:Env)(p:Nat)(val:Nat->V)(H:List (Nat×(Mem->Prop)))(da:aI)(M:Mem),(∀i,i<aF.size->bc.getD i true=true)->
  p<=aF.size->(∀i,p<=i->i<aF.size->bc.getD (aS i) true=false)->(∀t,aX da t=aX (bQ bk val (fun _=>true) s p) t)->
  ((p=aF.size/\K da M)∨∃o l,bk[p]? =some o/\bL[p]? =some (some l)/\hz P false o da M (fun aO ah=>kP H l ah/\mm P (bk.drop (p+1)) (bL.drop (p+1)) (p+1) H aO ah K))->
  cF w0 Γ0 n w Γ (bQ bk val (fun i=>bc.getD (aS i) true) s p) M a->Q .normal a w:=by
  intro bc a w Γ p val H da M eg ay eD jF hq bl;have qq:p=aF.size:=by
   rcases mR p aF.size with bx|pl
   . have:=eD p (cH _) bx
     rw[eg _ (bN.lt p bx)] at this;cases this
   . omega
  rcases hq with⟨_,i3⟩|⟨o,l,aA,_⟩
  . refine gw da M a w Γ ⟨bl.gd,fun t=>?_,bl.size,bl.defers,bl.ext⟩ i3
    rw[jF t,hn (val':=val) (L':=fun i=>bc.getD (aS i) true) (s0':=s) p rfl fun i hi _=>⟨(eg _ (bN.lt i (by omega))).symm,fun _=>rfl⟩];exact bl.gV t
  . have:=(bo.1 aA).1
    have:=bN.len;omega
 induction fuel with
 |zero=>
  refine⟨?_,?_⟩
  . intro bc a w Γ p val H da M mC gm dg gQ ay eD me gl jF hq bl
    have eg:∀i,i<aF.size->bc.getD i true=true:=fun i hi=>by
     have a8:(c5 aF.size).countP (fun i=>!bc.getD i true)=0:=by omega
     rw[List.countP_eq_zero] at a8;have:=a8 i (ka.2 hi);simpa using this
    have rL:Region.ready .any aF bc=[]:=by
     rw[List.eq_nil_iff_forall_not_mem];intro j ap;obtain⟨aa,o,af,_⟩:=mem_ready.1 ap;rw[eg j (lp.1 af).1] at aa;cases aa
    exact⟨rL,fin bc a w Γ p val H da M eg ay eD jF hq bl⟩
  . intro bc a w Γ p val H da M d1 h7 d2 hj cZ e4 Du mC gm dg gQ kn pe rq Mt xm qc fc eD me gl jF hw bl
    have a8:(c5 aF.size).countP (fun i=>!bc.getD i true)=0:=by omega
    rw[List.countP_eq_zero] at a8;have aa:=a8 (aS p) (ka.2 (bN.lt p (by omega)));rw[eD p (cH _) (by omega) (by omega)] at aa;exact absurd rfl aa
 |succ fuel bu=>
  refine⟨?_,?_⟩
  . intro bc a w Γ p val H da M mC gm dg gQ ay eD me gl jF hq bl
    have fJ:∀i b iW,i<aF.size->bc.getD i b=bc.getD i iW:=fun i b iW hi=>by simp[gm,hi]
    have nz:∀i,i<aF.size->bc.getD i true=false->(c5 aF.size).countP (fun j=>!(bc.setIfInBounds i true).getD j true)<=fuel:=fun i hi hu=>by
     have:=Bo (p:=fun j=>!bc.getD j true) (p':=fun j=>!(bc.setIfInBounds i true).getD j true) (i:=i) (by simp only[hu];rfl) (by simp[gm,hi]) (fun j ap=>by simp only[getD_set_ne true (gq ap)]) aF.size;rw[if_pos hi] at this;omega
    have ny:∀i o,aF[i]? =some o->(∀e∈o.after,Region.binds .any e=true->bc.getD e.on false=true)->
     (∀k o,aF[k]? =some o->(bc.setIfInBounds i true).getD k true=true->∀e∈o.after,Region.binds .any e=true->(bc.setIfInBounds i true).getD e.on true=true):=fun i o aA an k o' ei ao e he aj=>by
     have zQ:k<aF.size:=(lp.1 ei).1;have bx:e.on<aF.size:=by have:=n_ aF.toList 0 jD k o' e (by simpa using ei) he aj;omega
     have key:bc.getD e.on true=true->(bc.setIfInBounds i true).getD e.on true=true:=fun h=>by
      by_cases rE:i=e.on
      . subst rE;simp[gm,bx]
      . rw[getD_set_ne true rE];exact h
     by_cases gH:k=i
     . subst gH
       rw[aA] at ei;simp only[aW] at ei;subst ei;exact key ((fJ _ _ _ bx).trans (an e he aj))
     . rw[getD_set_ne true (gq gH)] at ao
       exact key (dg k o' ei ao e he aj)
    refine⟨fun rL=>?_,fun aC hi=>?_⟩
    . have eg:∀m i,i<m->i<aF.size->bc.getD i true=true:=by
       intro m;induction m with
       |zero=>intro i h;exact absurd h (e8 i)
       |succ m x1=>
        intro i xA hi;cases hu:bc.getD i true with
        |true=>rfl
        |false=>
         have an:i∈Region.ready .any aF bc:=mem_ready.2 ⟨hu,aF[i],by simp[hi],fun e he aj=>by
          have bx:e.on<i:=by have:=n_ aF.toList 0 jD i aF[i] e (by simp[hi]) he aj;omega
          exact(fJ _ _ _ (by omega)).trans (x1 e.on (by omega) (by omega))⟩;rw[rL] at an;cases an
      exact fin bc a w Γ p val H da M (fun i hi=>eg (i+1) i (by omega) hi) ay eD jF hq bl
    . obtain⟨hu,o,aA,an⟩:=mem_ready.1 hi
      have m2:aC<aF.size:=(lp.1 aA).1;obtain⟨i,fD,rfl⟩:=bN.yE aC m2;obtain⟨o',co,ei,fh,px⟩:=nC i fD;rw[aA] at ei;simp only[aW] at ei;subst ei;have l7:∀j,iE aF j (aS i)->bc.getD j true=true:=fun j ap=>
       ss jD (L:=fun j=>bc.getD j true) dg (aS i+1) (aS i) (by omega) o aA (fun e he aj=>by
        have bx:e.on<aS i:=by have:=n_ aF.toList 0 jD (aS i) o e (by simpa using aA) he aj;omega
        exact(fJ _ _ _ (by omega)).trans (an e he aj)) j ap;have mA:∀k,k<aF.size->bc.getD k true=true->∀j,iE aF j k->bc.getD j true=true:=fun k ao gO j ap=>by
       obtain⟨q,aG,rfl⟩:=bN.yE k ao;obtain⟨ok,_,b7,_⟩:=nC q aG;exact ss jD (L:=fun j=>bc.getD j true) dg (aS q+1) (aS q) (by omega) ok b7 (dg (aS q) ok b7 gO) j ap
      have e0:∀j,j<aF.size->j≠i->(bc.setIfInBounds (aS i) true).getD (aS j) true=bc.getD (aS j) true:=fun j ap eE=>
       getD_set_ne true fun e=>eE (bN.inj j i ap fD e.symm);have m5:(bc.setIfInBounds (aS i) true).getD (aS i) true=true:=by simp[gm,bN.lt i fD]
      have jo:∀k y,bk[k]? =some y->jA bk k=y.dst:=fun k y aE=>by simp only[jA,aE]
      have sJ:∀k t,k<aF.size->jA bk k=some t->∃y,bk[k]? =some y/\y.dst=some t:=fun k t ao aw=>by
       obtain⟨_,y,_,aE,_⟩:=nC k ao;exact⟨y,aE,by rw[<-jo k y aE];exact aw⟩
      by_cases pn:i<p
      .
       obtain⟨Qv,rv,tS,vi⟩:=me i pn hu;rw[fh] at rv;simp only[aW] at rv;subst rv;obtain⟨t6,vy⟩:=bN.still i co fh tS;have kG:∀t∈co.cQ,aX (bQ bk val (fun _=>true) s i) t=aX (bQ bk val (fun i=>bc.getD (aS i) true) s p) t:=fun t aV=>by
        have a4:bQ bk val (fun k=>decide (k<i)) s p=bQ bk val (fun k=>decide (k<i)) s i:=sr p (by omega) fun j aa _=>by simp;omega
        have bd:aX (bQ bk val (fun _=>true) s i) t=aX (bQ bk val (fun k=>decide (k<i)) s i) t:=hn i rfl fun j ap _=>⟨by simp[ap],fun _=>rfl⟩;rw[bd,<-a4];refine hn p rfl fun k ao fi=>⟨?_,fun _=>rfl⟩;obtain⟨y,aE,mg⟩:=sJ k t (by omega) fi;rcases Nat.lt_trichotomy k i with bx|heq|tU
        . rw[decide_eq_true bx]
          rcases bN.apart k i y co bx fD aE fh with aj|eC
          . exact(l7 _ aj).symm
          . exact absurd aV ((lA eC).1 t mg)
        . subst heq
          rw[hu];simp
        . rw[decide_eq_false (by omega)]
          rcases bN.apart i k co y tU (by omega) fh aE with aj|eC
          . cases ag:bc.getD (aS k) true with
            |false=>rfl
            |true=>rw[mA _ (bN.lt k (by omega)) ag _ aj] at hu;cases hu
          . exact absurd aV ((lA eC).2.2 t mg)
       have xx:=vi.move t6 kG;refine wx aA px bl xx ?_;rintro aO ah dt w' Γ' ct ⟨la,rfl⟩;refine bu.1 (bc.setIfInBounds (aS i) true) dt w' Γ' p val H da ah (nz _ (bN.lt i fD) hu) (by simp[gm]) (ny _ o aA an) gQ ay (fun j ap ix=>?_) (fun j ap ex=>?_) gl jF hq ?_
       . rw[e0 j ix (by omega)];exact eD j ap ix
       . by_cases eE:j=i
         . subst eE;rw[m5] at ex;cases ex
         . rw[e0 j (by omega) eE] at ex
           exact me j ap ex
       . refine⟨ct.gd,fun t=>?_,ct.size,ct.defers,ct.ext⟩
         have:=ct.gV t;rw[la t,hd] at this;have e:aX (bQ bk val (fun j=>(bc.setIfInBounds (aS i) true).getD (aS j) true) s p) t=if co.dst=some t then val i else aX (bQ bk val (fun j=>bc.getD (aS j) true) s p) t:=by
          have vg:∀(L:Nat->Bool),aX (bQ bk val L s p) t=aX (bQ bk val (fun j=>if j<aF.size then L j else false) s p) t:=fun L=>hn p rfl fun j ap _=>⟨by rw[if_pos (by omega)],fun _=>rfl⟩;rw[vg,vg (fun j=>bc.getD (aS j) true),<-jo i co fh];refine Fu (i:=i) (by rw[if_pos fD];exact hu) (by rw[if_pos fD];exact m5) (fun j eE=>?_) p pn fun j aa af az bh=>?_
          . split
            . rename_i ap;exact e0 j ap eE
            . rfl
          . rw[if_pos (by omega)]
            obtain⟨y,aE,mg⟩:=sJ j t (by omega) az;rw[jo i co fh] at bh;rcases bN.apart i j co y aa (by omega) fh aE with aj|eC
            . cases ag:bc.getD (aS j) true with
              |false=>rfl
              |true=>rw[mA _ (bN.lt j (by omega)) ag _ aj] at hu;cases hu
            . exact absurd mg ((lA eC).2.1 t bh)
         rw[e];exact this
      .
       rcases hq with⟨qq,_⟩|⟨hQ,l,jX,og,qt⟩
       . omega
       . have fj:p<aF.size:=by have:=(bo.1 jX).1;have:=bN.len;omega
         obtain⟨vz,qc,C1⟩:=bN.aP p hQ l gQ jX og;by_cases xz:i=p;rotate_left
         .
          have bx:p<i:=by omega
          rcases qc with qc|⟨Du,kn,d1,h7,d2,hj,e4,pe,rq,xm,qc⟩
          . have:=l7 _ (qc i bx fD)
            rw[eD p (cH _) fj] at this;cases this
          . have vq:i=p+1:=by
             rcases mR (p+1) i with h|h
             . have:=l7 _ (qc i h fD).1
               rw[eD p (cH _) fj] at this;cases this
             . omega
            subst vq;rw[fh] at rq;simp only[aW] at rq;subst rq;rw[pe] at jX;simp only[aW] at jX;subst jX;have rM:cF w0 Γ0 n w _ (bQ bk val (fun i=>bc.getD (aS i) true) s p) (M++[.dead]) a:=bl.qB (bl.gd.Hw 0 (B:=.dead) ⟨rfl,rfl⟩) (Ext.ghost w Γ _);have DE:hz P false ⟨some d2,.alloc hj,false,none⟩ (bQ bk val (fun i=>bc.getD (aS i) true) s p) (M++[.dead]) (fun aO ah=>aO=eP (bQ bk val (fun i=>bc.getD (aS i) true) s p) d2 (.ptr (M.length+1) 0)/\ah=M++[.dead,.box hj]):=by
             show _/\_;exact⟨by simp[bA],by simp⟩
            refine wx aA px rM DE ?_;rintro aO ah dt w' Γ' ct ⟨rfl,rfl⟩;have aHZ:∀t,aX (eP (bQ bk val (fun i=>(bc.setIfInBounds (aS (p+1)) true).getD (aS i) true) s p) d2 (.ptr (M.length+1) 0)) t=aX (eP (bQ bk val (fun i=>bc.getD (aS i) true) s p) d2 (.ptr (M.length+1) 0)) t:=fun t=>by
             rw[mi,mi];split
             . rfl
             . exact hn p rfl fun j ap _=>⟨e0 j (by omega) (by omega),fun _=>rfl⟩
            refine bu.2 (bc.setIfInBounds (aS (p+1)) true) dt w' Γ' p val H da M d1 h7 d2 hj l e4 Du (nz _ (bN.lt _ fD) hu) (by simp[gm]) (ny _ o aA an) gQ kn pe fh og xm (fun q aa af=>(qc q aa af).1) m5 (fun j ap ix cD=>?_) (fun j ap ex=>?_) gl jF qt ⟨ct.gd,fun t=>?_,ct.size,ct.defers,ct.ext⟩
            . rw[e0 j ix cD];exact eD j ap ix
            . rw[e0 j (by omega) (by omega)] at ex
              exact me j ap ex
            . rw[aHZ t];exact ct.gV t
         subst xz;rw[fh] at jX;simp only[aW] at jX;subst jX;have kG:∀t∈co.cQ,aX da t=aX (bQ bk val (fun i=>bc.getD (aS i) true) s i) t:=fun t aV=>by
          rw[jF t];refine hn i rfl fun k ao fi=>⟨?_,fun _=>rfl⟩;obtain⟨y,aE,mg⟩:=sJ k t (by omega) fi;rcases bN.apart k i y co ao fD aE fh with aj|eC
          . exact(l7 _ aj).symm
          . exact absurd aV ((lA eC).1 t mg)
         have DE:hz P false co (bQ bk val (fun i=>bc.getD (aS i) true) s i) M (fun aO ah=>∃v,aO=bA (bQ bk val (fun i=>bc.getD (aS i) true) s i) co.dst v/\(kP H l ah/\mm P (bk.drop (i+1)) (bL.drop (i+1)) (i+1) H (bA da co.dst v) ah K)):=by
          obtain⟨dst,op,bz,g⟩:=co;simp only at vz;subst vz;exact aQK (s:=da) (fun t aV=>kG t (by simpa[bw.cQ] using aV)) qt
         refine wx aA px bl DE ?_;rintro aO ah dt w' Γ' ct ⟨v,rfl,xM,g3⟩;have rB:∀m,m<=i->∀t(L:Nat->Bool),aX (bQ bk (fun j=>if j=i then v else val j) L s m) t=aX (bQ bk val L s m) t:=fun m hm t L=>
          hn m rfl fun j ap _=>⟨rfl,fun _=>if_neg (by omega)⟩;obtain⟨p',val',gb,oK,bI,ce,dS,ft,fl,ij,m6⟩:=BF (P:=P) (M:=ah) (K:=K) (s0:=s) tZ bN.AQ (bk.length -(i+1)) (i+1) (fun j=>if j=i then v else val j) H (bA da co.dst v) rfl (by rw[bN.len];omega) (by
          intro j x ap ad aD aB aw cE ag;by_cases eE:j=i
          . subst eE
            rw[og] at aD;simp at aD
          . have:=gl j x (by omega) ad aD aB aw cE ag
            show gr P x _ cE (if j=i then v else val j);rw[if_neg eE];exact this.move (bN.still j x ad aD).1 fun t _=>(rB j (by omega) t _).symm) (fun t=>by
          simp only[bQ,cond_true,if_true,jo i co fh];rw[hd,hd,jF t,rB i (cH _) t]) g3;rw[bN.len] at ce;have rN:val' i=v:=(dS i (by omega)).trans (if_pos rfl);have kp:∀m,m<=i->∀t(L:Nat->Bool),aX (bQ bk val' L s m) t=aX (bQ bk val L s m) t:=fun m hm t L=>
          hn m rfl fun j ap _=>⟨rfl,fun _=>(dS j (by omega)).trans (if_neg (by omega))⟩;refine bu.1 (bc.setIfInBounds (aS i) true) dt w' Γ' p' val' gb oK ah (nz _ (bN.lt i fD) hu) (by simp[gm]) (ny _ o aA an) (by omega) ce (fun j ap ix=>?_) (fun j ap ex=>?_) ft fl ?_ ?_
         . rw[e0 j ix (by omega)];exact eD j (by omega) ix
         . rcases Nat.lt_trichotomy j i with bx|heq|tU
           . rw[e0 j (by omega) (by omega)] at ex
             obtain⟨x,ad,hr,_⟩:=me j bx ex;rcases C1 j x bx ad with aj|⟨_,_,_,d1,h7,_,_,_,pe,_⟩|⟨aT,a2,bJ,c8⟩
             . rw[l7 _ aj] at ex;cases ex
             . rw[ad] at pe
               simp only[aW] at pe;have:=(bN.still j x ad hr).1;rw[pe] at this;cases this
             . refine⟨x,ad,hr,?_⟩
               have:=gl j x bx ad hr a2 bJ ah (EH xM j aT);rw[(dS j (by omega)).trans (if_neg (by omega))];exact this.move (bN.still j x ad hr).1 fun t _=>(kp j (by omega) t _).symm
           . subst heq
             rw[m5] at ex;cases ex
           . exact ij j (by omega) ap
         . rcases m6 with⟨aa,af⟩|h
           . exact .inl ⟨aa.trans bN.len,af⟩
           . exact .inr h
         . refine⟨ct.gd,fun t=>?_,ct.size,ct.defers,ct.ext⟩
           have a4:bQ bk val' (fun j=>(bc.setIfInBounds (aS i) true).getD (aS j) true) s p'=bQ bk val' (fun j=>(bc.setIfInBounds (aS i) true).getD (aS j) true) s (i+1):=
            sr p' (by omega) fun j aa af=>by rw[e0 j (by omega) (by omega)];exact eD j (by omega) (by omega)
           rw[a4];simp only[bQ,m5,cond_true,jo i co fh,rN];have bd:aX (bQ bk val' (fun j=>(bc.setIfInBounds (aS i) true).getD (aS j) true) s i) t=aX (bQ bk val (fun j=>bc.getD (aS j) true) s i) t:=by
            rw[kp i (cH _) t];exact hn i rfl fun j ap _=>⟨e0 j (by omega) (by omega),fun _=>rfl⟩
           rw[hd,bd,<-hd];exact ct.gV t
  . intro bc a w Γ p val H da M d1 h7 d2 hj cZ e4 Du mC gm dg gQ kn pe rq Mt xm qc fc eD me gl jF hw bl
    have fJ:∀i b iW,i<aF.size->bc.getD i b=bc.getD i iW:=fun i b iW hi=>by simp[gm,hi]
    have nz:∀i,i<aF.size->bc.getD i true=false->(c5 aF.size).countP (fun j=>!(bc.setIfInBounds i true).getD j true)<=fuel:=fun i hi hu=>by
     have:=Bo (p:=fun j=>!bc.getD j true) (p':=fun j=>!(bc.setIfInBounds i true).getD j true) (i:=i) (by simp only[hu];rfl) (by simp[gm,hi]) (fun j ap=>by simp only[getD_set_ne true (gq ap)]) aF.size;rw[if_pos hi] at this;omega
    have ny:∀i o,aF[i]? =some o->(∀e∈o.after,Region.binds .any e=true->bc.getD e.on false=true)->
     (∀k o,aF[k]? =some o->(bc.setIfInBounds i true).getD k true=true->∀e∈o.after,Region.binds .any e=true->(bc.setIfInBounds i true).getD e.on true=true):=fun i o aA an k o' ei ao e he aj=>by
     have zQ:k<aF.size:=(lp.1 ei).1;have bx:e.on<aF.size:=by have:=n_ aF.toList 0 jD k o' e (by simpa using ei) he aj;omega
     have key:bc.getD e.on true=true->(bc.setIfInBounds i true).getD e.on true=true:=fun h=>by
      by_cases rE:i=e.on
      . subst rE;simp[gm,bx]
      . rw[getD_set_ne true rE];exact h
     by_cases gH:k=i
     . subst gH
       rw[aA] at ei;simp only[aW] at ei;subst ei;exact key ((fJ _ _ _ bx).trans (an e he aj))
     . rw[getD_set_ne true (gq gH)] at ao
       exact key (dg k o' ei ao e he aj)
    have xJ:bc.getD (aS p) true=false:=eD p (cH _) (by omega) (by omega);refine⟨fun rL=>?_,fun aC hi=>?_⟩
    . have eg:∀m i,i<m->i<aF.size->bc.getD i true=true:=by
       intro m;induction m with
       |zero=>intro i h;exact absurd h (e8 i)
       |succ m x1=>
        intro i xA hi;cases hu:bc.getD i true with
        |true=>rfl
        |false=>
         have an:i∈Region.ready .any aF bc:=mem_ready.2 ⟨hu,aF[i],by simp[hi],fun e he aj=>by
          have bx:e.on<i:=by have:=n_ aF.toList 0 jD i aF[i] e (by simp[hi]) he aj;omega
          exact(fJ _ _ _ (by omega)).trans (x1 e.on (by omega) (by omega))⟩;rw[rL] at an;cases an
      rw[eg (aS p+1) (aS p) (by omega) (bN.lt p (by omega))] at xJ;cases xJ
    . obtain⟨hu,o,aA,an⟩:=mem_ready.1 hi
      have m2:aC<aF.size:=(lp.1 aA).1;obtain⟨i,fD,rfl⟩:=bN.yE aC m2;obtain⟨o',co,ei,fh,px⟩:=nC i fD;rw[aA] at ei;simp only[aW] at ei;subst ei;have l7:∀j,iE aF j (aS i)->bc.getD j true=true:=fun j ap=>
       ss jD (L:=fun j=>bc.getD j true) dg (aS i+1) (aS i) (by omega) o aA (fun e he aj=>by
        have bx:e.on<aS i:=by have:=n_ aF.toList 0 jD (aS i) o e (by simpa using aA) he aj;omega
        exact(fJ _ _ _ (by omega)).trans (an e he aj)) j ap;have mA:∀k,k<aF.size->bc.getD k true=true->∀j,iE aF j k->bc.getD j true=true:=fun k ao gO j ap=>by
       obtain⟨q,aG,rfl⟩:=bN.yE k ao;obtain⟨ok,_,b7,_⟩:=nC q aG;exact ss jD (L:=fun j=>bc.getD j true) dg (aS q+1) (aS q) (by omega) ok b7 (dg (aS q) ok b7 gO) j ap
      have e0:∀j,j<aF.size->j≠i->(bc.setIfInBounds (aS i) true).getD (aS j) true=bc.getD (aS j) true:=fun j ap eE=>
       getD_set_ne true fun e=>eE (bN.inj j i ap fD e.symm);have m5:(bc.setIfInBounds (aS i) true).getD (aS i) true=true:=by simp[gm,bN.lt i fD]
      have jo:∀k y,bk[k]? =some y->jA bk k=y.dst:=fun k y aE=>by simp only[jA,aE]
      have sJ:∀k t,k<aF.size->jA bk k=some t->∃y,bk[k]? =some y/\y.dst=some t:=fun k t ao aw=>by
       obtain⟨_,y,_,aE,_⟩:=nC k ao;exact⟨y,aE,by rw[<-jo k y aE];exact aw⟩
      have aH3:d1≠d2:=by
       rcases bN.apart p (p+1) _ _ (by omega) kn pe rq with aj|eC
       . rw[mA _ (bN.lt _ kn) fc _ aj] at xJ;cases xJ
       . intro e
         exact(lA eC).2.1 d1 rfl (by rw[e])
      have aDz:∀i y,i<p->bc.getD (aS i) true=false->bk[i]? =some y->y.dst≠some d2/\d2∉y.cQ:=fun i y pn km aE=>by
       rcases bN.apart i (p+1) y _ (by omega) kn aE rq with aj|eC
       . rw[mA _ (bN.lt _ kn) fc _ aj] at km;cases km
       . exact⟨fun e=>(lA eC).2.1 d2 e rfl,(lA eC).2.2 d2 rfl⟩
      by_cases pn:i<p
      .
       obtain⟨Qv,rv,tS,vi⟩:=me i pn hu;rw[fh] at rv;simp only[aW] at rv;subst rv;obtain⟨t6,vy⟩:=bN.still i co fh tS;obtain⟨ph,h0⟩:=aDz i co pn hu fh;have kG:∀t∈co.cQ,aX (bQ bk val (fun _=>true) s i) t=aX (eP (bQ bk val (fun i=>bc.getD (aS i) true) s p) d2 (.ptr (M.length+1) 0)) t:=fun t aV=>by
        rw[mi,if_neg (fun e=>h0 (by rw[<-e];exact aV))];have a4:bQ bk val (fun k=>decide (k<i)) s p=bQ bk val (fun k=>decide (k<i)) s i:=sr p (by omega) fun j aa _=>by simp;omega
        have bd:aX (bQ bk val (fun _=>true) s i) t=aX (bQ bk val (fun k=>decide (k<i)) s i) t:=hn i rfl fun j ap _=>⟨by simp[ap],fun _=>rfl⟩;rw[bd,<-a4];refine hn p rfl fun k ao fi=>⟨?_,fun _=>rfl⟩;obtain⟨y,aE,mg⟩:=sJ k t (by omega) fi;rcases Nat.lt_trichotomy k i with bx|heq|tU
        . rw[decide_eq_true bx]
          rcases bN.apart k i y co bx fD aE fh with aj|eC
          . exact(l7 _ aj).symm
          . exact absurd aV ((lA eC).1 t mg)
        . subst heq
          rw[hu];simp
        . rw[decide_eq_false (by omega)]
          rcases bN.apart i k co y tU (by omega) fh aE with aj|eC
          . cases ag:bc.getD (aS k) true with
            |false=>rfl
            |true=>rw[mA _ (bN.lt k (by omega)) ag _ aj] at hu;cases hu
          . exact absurd aV ((lA eC).2.2 t mg)
       have xx:=(vi.app t6 (vy.resolve_right fun q=>by rw[Du] at q;cases q.1) [.dead,.box hj]).move t6 kG;refine wx aA px bl xx ?_;rintro aO ah dt w' Γ' ct ⟨la,rfl⟩;refine bu.2 (bc.setIfInBounds (aS i) true) dt w' Γ' p val H da M d1 h7 d2 hj cZ e4 Du (nz _ (bN.lt i fD) hu) (by simp[gm]) (ny _ o aA an) gQ kn pe rq Mt xm qc (by rw[e0 (p+1) kn (by omega)];exact fc) (fun j ap ix cD=>?_) (fun j ap ex=>?_) gl jF hw ⟨ct.gd,fun t=>?_,ct.size,ct.defers,ct.ext⟩
       . rw[e0 j ix (by omega)];exact eD j ap ix cD
       . by_cases eE:j=i
         . subst eE;rw[m5] at ex;cases ex
         . rw[e0 j (by omega) eE] at ex
           exact me j ap ex
       . have:=ct.gV t
         rw[la t,hd,mi] at this;rw[mi];have e:aX (bQ bk val (fun j=>(bc.setIfInBounds (aS i) true).getD (aS j) true) s p) t=if co.dst=some t then val i else aX (bQ bk val (fun j=>bc.getD (aS j) true) s p) t:=by
          have vg:∀(L:Nat->Bool),aX (bQ bk val L s p) t=aX (bQ bk val (fun j=>if j<aF.size then L j else false) s p) t:=fun L=>hn p rfl fun j ap _=>⟨by rw[if_pos (by omega)],fun _=>rfl⟩;rw[vg,vg (fun j=>bc.getD (aS j) true),<-jo i co fh];refine Fu (i:=i) (by rw[if_pos fD];exact hu) (by rw[if_pos fD];exact m5) (fun j eE=>?_) p pn fun j aa af az bh=>?_
          . split
            . rename_i ap;exact e0 j ap eE
            . rfl
          . rw[if_pos (by omega)]
            obtain⟨y,aE,mg⟩:=sJ j t (by omega) az;rw[jo i co fh] at bh;rcases bN.apart i j co y aa (by omega) fh aE with aj|eC
            . cases ag:bc.getD (aS j) true with
              |false=>rfl
              |true=>rw[mA _ (bN.lt j (by omega)) ag _ aj] at hu;cases hu
            . exact absurd mg ((lA eC).2.1 t bh)
         rw[e];by_cases aV:t=d2
         . rw[if_pos aV]
           rw[if_neg (fun e=>ph (by rw[e,aV])),if_pos aV] at this;exact this
         . rw[if_neg aV]
           rw[if_neg aV] at this;exact this
      .
       have xz:i=p:=by
        rcases mR p i with bx|pl
        . by_cases vq:i=p+1
          . subst vq;rw[fc] at hu;cases hu
          . have:=l7 _ (qc i (by omega) fD)
            rw[xJ] at this;cases this
        . omega
       subst xz;rw[fh] at pe;simp only[aW] at pe;subst pe;refine Yc aA px bl (id:=M.length) (by simp) ?_;intro dt w' Γ' ct;have aHk:(M++[a1.dead,.box hj]).set M.length (.box h7)=M++[.box h7]++[.box hj]:=by simp
       rw[aHk] at ct;have ou:kP H cZ (M++[.box h7])/\mm P (bk.drop (i+1)) (bL.drop (i+1)) (i+1) H (eP da d1 (.ptr M.length 0)) (M++[.box h7]) K:=hw;have my:bk.drop (i+1)=bk[i+1]'(by rw[bN.len];omega)::bk.drop (i+1+1):=qU (by rw[bN.len];omega);have wZ:bL.drop (i+1)=bL[i+1]'(by rw[bN.zs];omega)::bL.drop (i+1+1):=qU (by rw[bN.zs];omega);have aGV:=(bo.1 rq).2;have aGX:=(bo.1 xm).2;rw[my,wZ,aGV,aGX] at ou;have qt:kP H e4 (M++[.box h7]++[.box hj])/\mm P (bk.drop (i+1+1)) (bL.drop (i+1+1)) (i+1+1) H (eP (eP da d1 (.ptr M.length 0)) d2 (.ptr (M++[a1.box h7]).length 0)) (M++[.box h7]++[.box hj]) K:=ou.2;obtain⟨xM,g3⟩:=qt;have aJk:(M++[a1.box h7]).length=M.length+1:=by simp
       rw[aJk] at g3;obtain⟨_,_,aHL⟩:=bN.aP (i+1) _ e4 (by omega) rq xm;have rB:∀m,m<=i->∀t(L:Nat->Bool),aX (bQ bk (fun j=>if j=i then .ptr M.length 0 else if j=i+1 then .ptr (M.length+1) 0 else val j) L s m) t=aX (bQ bk val L s m) t:=fun m hm t L=>
        hn m rfl fun j ap _=>⟨rfl,fun _=>by rw[if_neg (by omega),if_neg (by omega)]⟩;have Uh:∀t(L:Nat->Bool),L i=true->L (i+1)=true->aX (bQ bk (fun j=>if j=i then .ptr M.length 0 else if j=i+1 then .ptr (M.length+1) 0 else val j) L s (i+1+1)) t=if t=d2 then .ptr (M.length+1) 0 else if t=d1 then .ptr M.length 0 else aX (bQ bk val L s i) t:=fun t L CW nw=>by
        simp only[bQ,CW,nw,cond_true,jo i _ fh,jo (i+1) _ rq,hd,aW,if_true,if_neg (show¬i+1=i by omega),eq_comm (a:=d2),eq_comm (a:=d1)];rw[rB i (cH _) t]
       obtain⟨p',val',gb,oK,bI,ce,dS,ft,fl,ij,m6⟩:=BF (P:=P) (M:=M++[a1.box h7]++[a1.box hj]) (K:=K) (s0:=s) tZ bN.AQ (bk.length -(i+1+1)) (i+1+1) (fun j=>if j=i then .ptr M.length 0 else if j=i+1 then .ptr (M.length+1) 0 else val j) H (eP (eP da d1 (.ptr M.length 0)) d2 (.ptr (M.length+1) 0)) rfl (by rw[bN.len];omega) (by
        intro j x ap ad aD aB aw cE ag;by_cases eE:j=i
        . subst eE
          rw[Mt] at aD;simp at aD
        by_cases UB:j=i+1
        . subst UB
          rw[xm] at aD;simp at aD
        have:=gl j x (by omega) ad aD aB aw cE ag;show gr P x _ cE (if j=i then _ else if j=i+1 then _ else val j);rw[if_neg eE,if_neg UB];exact this.move (bN.still j x ad aD).1 fun t _=>(rB j (by omega) t _).symm) (fun t=>by
        rw[Uh t _ rfl rfl,mi,mi,jF t]) g3;rw[bN.len] at ce;have kp:∀m,m<=i->∀t(L:Nat->Bool),aX (bQ bk val' L s m) t=aX (bQ bk val L s m) t:=fun m hm t L=>
        hn m rfl fun j ap _=>⟨rfl,fun _=>by rw[dS j (by omega),if_neg (by omega),if_neg (by omega)]⟩;have U3:(bc.setIfInBounds (aS i) true).getD (aS (i+1)) true=true:=by rw[e0 (i+1) kn (by omega)];exact fc
       refine bu.1 (bc.setIfInBounds (aS i) true) dt w' Γ' p' val' gb oK (M++[a1.box h7]++[a1.box hj]) (nz _ (bN.lt i fD) hu) (by simp[gm]) (ny _ o aA an) (by omega) ce (fun j ap ix=>?_) (fun j ap ex=>?_) ft fl ?_ ?_
       . rw[e0 j ix (by omega)];exact eD j (by omega) ix (by omega)
       . by_cases zP:j<i
         . rw[e0 j (by omega) (by omega)] at ex
           obtain⟨x,ad,hr,_⟩:=me j zP ex;rcases aHL j x (by omega) ad with aj|⟨aa,_⟩|⟨aT,a2,bJ,c8⟩
           . rw[mA _ (bN.lt _ kn) fc _ aj] at ex;cases ex
           . omega
           . refine⟨x,ad,hr,?_⟩
             have:=gl j x zP ad hr a2 bJ _ (EH xM j aT);rw[dS j (by omega),if_neg (by omega),if_neg (by omega)];exact this.move (bN.still j x ad hr).1 fun t _=>(kp j (by omega) t _).symm
         by_cases aI8:j=i
         . subst aI8
           rw[m5] at ex;cases ex
         by_cases tV:j=i+1
         . subst tV
           rw[U3] at ex;cases ex
         exact ij j (by omega) ap
       . rcases m6 with⟨aa,af⟩|h
         . exact .inl ⟨aa.trans bN.len,af⟩
         . exact .inr h
       . refine⟨ct.gd,fun t=>?_,ct.size,ct.defers,ct.ext⟩
         have a4:bQ bk val' (fun j=>(bc.setIfInBounds (aS i) true).getD (aS j) true) s p'=bQ bk val' (fun j=>(bc.setIfInBounds (aS i) true).getD (aS j) true) s (i+1+1):=
          sr p' (by omega) fun j aa af=>by rw[e0 j (by omega) (by omega)];exact eD j (by omega) (by omega) (by omega)
         have bd:aX (bQ bk val' (fun j=>(bc.setIfInBounds (aS i) true).getD (aS j) true) s (i+1+1)) t=aX (bQ bk (fun j=>if j=i then .ptr M.length 0 else if j=i+1 then .ptr (M.length+1) 0 else val j) (fun j=>(bc.setIfInBounds (aS i) true).getD (aS j) true) s (i+1+1)) t:=
          hn _ rfl fun j ap _=>⟨rfl,fun _=>dS j ap⟩;have e3:aX (bQ bk val (fun j=>(bc.setIfInBounds (aS i) true).getD (aS j) true) s i) t=aX (bQ bk val (fun j=>bc.getD (aS j) true) s i) t:=
          hn i rfl fun j ap _=>⟨e0 j (by omega) (by omega),fun _=>rfl⟩;rw[a4,bd,Uh t _ m5 U3,e3];have:=ct.gV t;rw[mi,mi] at this;by_cases aa:t=d2
         . have af:¬t=d1:=fun e=>aH3 (by rw[<-e,aa])
           rw[if_pos aa];rw[if_neg af,if_pos aa] at this;exact this
         . rw[if_neg aa]
           by_cases af:t=d1
           . rw[if_pos af]
             rw[if_pos af] at this;exact this
           . rw[if_neg af]
             rw[if_neg af,if_neg aa] at this;exact this
theorem aFb{id:Nat}{aF:Array Oper}{bg:List bw}{x:List bw×List (Option (List Nat))}{mu:List Nat}{Q:Exit->Act->World->Prop}{K:aI->Mem->Prop}(Do:P.follows .mixedOrders=true)(fs:pP P n mu aF 0 aF.toList=some bg){fK:Bool}(Dn:JY fK aF bg=some x)
 (vE:cF w0 Γ0 n w Γ s M a)(zZ:mm P x.1 x.2 0 [] s M K)(gw:∀aO ah dt w' Γ',cF w0 Γ0 n w' Γ' aO ah dt->K aO ah->Q .normal dt w'):(Code.region id aF true).wp P Q a w:=by
 obtain⟨bk,bL⟩:=x;obtain⟨aS,bN⟩:=aMy Dn;simp only at zZ;obtain⟨hlen,gx⟩:=EI _ _ _ fs;simp only[ee] at gx;have jD:=bN.back;have nC:∀i,i<aF.size->∃o co,aF[aS i]? =some o/\bk[i]? =some co/\s6 P n mu aF (aS i) o=some co:=fun i hi=>by
  have ag:=bN.lt i hi;obtain⟨co,aa,af⟩:=gx (aS i) (aF[aS i]) (by simp[ag]);exact⟨_,co,by simp[ag],by rw[bN.get i hi];exact aa,af⟩
 have tZ:bk.length=bL.length:=by rw[bN.len,bN.zs]
 have main:=Sw (P:=P) (w0:=w0) (Γ0:=Γ0) (s:=s) (K:=K) fs bN gw;refine wp_region_any Do ?_;have mc:cF w0 Γ0 n w.drew Γ s M a:=vE.qB vE.gd.drew (Ext.drew w Γ);obtain⟨p',val',gb,oK,_,ce,_,ft,fl,ij,m6⟩:=BF (P:=P) (M:=M) (K:=K) (s0:=s) tZ bN.AQ bk.length 0 (fun _=>.undef) [] s (by omega) (fR _) (fun i o hi=>absurd hi (e8 i)) (fun t=>rfl) (by simpa using zZ);rw[bN.len] at ce;have a_:∀i,i<aF.size->(Array.replicate aF.size false).getD i true=false:=fun i hi=>by simp[hi]
 refine(main aF.size).1 _ a w.drew Γ p' val' gb oK M ?_ (by simp) ?_ (fR _) ce (fun i _ hi=>a_ _ (bN.lt i hi)) (fun i hi _=>ij i (fR _) hi) ft fl ?_ ?_
 . have:=List.countP_le_length (p:=fun i=>!(Array.replicate aF.size false).getD i true) (l:=c5 aF.size)
   simpa using this
 . intro k o aA ao
   rw[a_ k (lp.1 aA).1] at ao;cases ao
 . rcases m6 with⟨aa,af⟩|h
   . exact .inl ⟨aa.trans bN.len,af⟩
   . exact .inr h
 . refine⟨mc.gd,fun t=>?_,mc.size,mc.defers,mc.ext⟩
   have e:bQ bk val' (fun i=>(Array.replicate aF.size false).getD (aS i) true) s p'=bQ bk val' (fun i=>(Array.replicate aF.size false).getD (aS i) true) s 0:=
    sr p' (fR _) fun j _ ap=>a_ _ (bN.lt j (by omega));rw[e];exact mc.gV t
end
end Go.aL
namespace Go.aL
open Go.RowKit (Below)
section
variable{P:Program}{w0 w:World}{Γ0 Γ:Env}{M:Mem}{s dq:aI}{a:Act}{n:Nat}
theorem aLR{k:Nat}{bZ:Bool}{x v:V}{M:Mem}{n:Nat}{B:a1}(g2:M[n]? =some .dead)(h:g4 k bZ x M=some v):g4 k bZ x (M.set n B)=some v:=by
 cases x<;>simp only[g4] at h⊢<;>first|exact h|skip
 case ptr id off=>
  cases a7:M[id]? with
  |none=>rw[a7] at h;cases h
  |some lu=>
   by_cases hi:n=id
   . subst hi;rw[g2] at a7;cases a7;rw[g2] at h;first|(cases h;done)|(cases mx<;>cases h)
   . rw[dv hi];exact h
 case fq id ver row off=>
  cases a7:M[id]? with
  |none=>rw[a7] at h;cases h
  |some lu=>
   by_cases hi:n=id
   . subst hi;rw[g2] at a7;cases a7;rw[g2] at h;first|(cases h;done)|(cases mx<;>cases h)
   . rw[dv hi];exact h
theorem aOz{k:Nat}{x:V}{r:List (List V)}{M:Mem}{n:Nat}{B:a1}(g2:M[n]? =some .dead)(h:eK k M x=some r):eK k (M.set n B) x=some r:=by
 cases x<;>simp only[eK] at h⊢<;>first|exact h|skip
 case aZ id _ _ _=>
  cases a7:M[id]? with
  |none=>rw[a7] at h;cases h
  |some lu=>
   by_cases hi:n=id
   . subst hi;rw[g2] at a7;cases a7;rw[g2] at h;first|(cases h;done)|(cases mx<;>cases h)
   . rw[dv hi];exact h
theorem aLE{x v:V}{M:Mem}{n:Nat}{B:a1}(g2:M[n]? =some .dead)(h:iA x M=some v):iA x (M.set n B)=some v:=by
 cases x<;>simp only[iA] at h⊢<;>first|exact h|skip
 case aZ id _ _ _=>
  cases a7:M[id]? with
  |none=>rw[a7] at h;cases h
  |some lu=>
   by_cases hi:n=id
   . subst hi;rw[g2] at a7;cases a7;rw[g2] at h;first|(cases h;done)|(cases mx<;>cases h)
   . rw[dv hi];exact h
theorem aKW{k:Nat}{x i v:V}{M:Mem}{n:Nat}{B:a1}(g2:M[n]? =some .dead)(h:iz k x i M=some v):iz k x i (M.set n B)=some v:=by
 cases i<;>simp only[iz] at h⊢<;>first|exact h|skip
 case int qA q=>
  cases aw:decide (0<=q) with
  |false=>rw[aw] at h;cases h
  |true=>
   rw[aw] at h;simp only[cond_true] at h⊢;cases x<;>simp only at h⊢<;>first|exact h|skip
   case aZ id _ _ _=>
    cases a7:M[id]? with
    |none=>rw[a7] at h;cases h
    |some lu=>
     by_cases hi:n=id
     . subst hi;rw[g2] at a7;cases a7;rw[g2] at h;first|(cases h;done)|(cases mx<;>cases h)
     . rw[dv hi];exact h
theorem aO_{k:Nat}{x v:V}{lo hi mx:Option V}{M:Mem}{n:Nat}{B:a1}(g2:M[n]? =some .dead)(h:hf k x lo hi mx M=some v):hf k x lo hi mx (M.set n B)=some v:=by
 cases x<;>simp only[hf] at h⊢<;>first|exact h|skip
 case aZ id _ _ _=>
  cases a7:M[id]? with
  |none=>rw[a7] at h;cases mx<;>cases h
  |some lu=>
   by_cases hi:n=id
   . subst hi;rw[g2] at a7;cases a7;rw[g2] at h;first|(cases h;done)|(cases mx<;>cases h)
   . rw[dv hi];exact h
theorem aMn{c:fv}{m key:V}{r:Option V}{M:Mem}{n:Nat}{B:a1}(g2:M[n]? =some .dead)(h:m9 c M m key=some r):m9 c (M.set n B) m key=some r:=by
 unfold m9 at h⊢;cases ao:kI c key with
 |false=>rw[ao] at h;cases h
 |true=>
  rw[ao] at h;simp only[cond_true] at h⊢;cases m<;>simp only at h⊢<;>first|exact h|skip
  case map id=>
   cases a7:M[id]? with
   |none=>rw[a7] at h;cases h
   |some lu=>
    by_cases hi:n=id
    . subst hi;rw[g2] at a7;cases a7;rw[g2] at h;first|(cases h;done)|(cases mx<;>cases h)
    . rw[dv hi];exact h
theorem aNy{o:dM}{v:V}{M:Mem}{n:Nat}{B:a1}(g2:M[n]? =some .dead)(h:hU o s M=some v):hU o s (M.set n B)=some v:=by
 cases o<;>simp only[hU] at h⊢<;>first|exact h|exact aLR g2 h|exact aLE g2 h|exact aKW g2 h|exact aO_ g2 h|skip
 case rh x=>
  unfold su at h⊢;cases an:eK 1 M (aP s x) with
  |none=>rw[an] at h;cases h
  |some r=>rw[an] at h;rw[aOz g2 an];exact h
 case lookup c z bZ ok m k=>
  unfold oA at h⊢;cases an:m9 c M (aP s m) (aP s k) with
  |none=>rw[an] at h;cases h
  |some r=>rw[an] at h;rw[aMn g2 an];exact h
theorem gr.aQr{o:bw}{v:V}(hm:o.op.ht=false)(ar:o.op.jH=false)(h:gr P o s M v){n:Nat}{B:a1}(g2:M[n]? =some .dead):gr P o s (M.set n B) v:=by
 obtain⟨dst,op,bz,g⟩:=o;have key:∀(s1 r:aI),wpOp P false op dst bz s1 M (k1 r M)->wpOp P false op dst bz s1 (M.set n B) (k1 r (M.set n B)):=fun s1 r h=>by
  rw[yR hm ar] at h⊢;obtain⟨dT,aa,af,az,_⟩:=h;exact⟨dT,aNy g2 aa,af,az,rfl⟩
 have Ed:∀(s1 r:aI),k1 r M s1 M->k1 r (M.set n B) s1 (M.set n B):=fun s1 r h=>⟨h.1,rfl⟩;unfold gr hz at h⊢;cases g with
 |none=>exact key _ _ h
 |some nv=>
  obtain⟨g,gW⟩:=nv;simp only at h⊢;cases aB:aX s g<;>rw[aB] at h<;>(try simp only at h)<;>(try simp only)<;>first|exact h.elim|skip
  case bool b=>
   cases gW<;>cases b<;>first|exact key _ _ h|exact Ed _ _ h
  case tuple vs=>
   cases vs with
   |nil=>exact Ed _ _ h
   |cons _ _=>exact h.elim
theorem N3{bg:List bw}{bL:List (Option (List Nat))}{K:aI->Mem->Prop}{s0:aI}{z:List V}{n c:Nat}(hlen:bg.length=bL.length)(qg:c<bg.length)(zM:∃l,bL[c]? =some (some l))(bl:∀(i:Nat)(o:bw),bg[i]? =some o->bL[i]? =some none->o.op.ht=false/\(o.op.jH=false∨o.op.x2=true)):
 ∀(m q:Nat)(val:Nat->V)(H:List (Nat×(Mem->Prop)))(s:aI),c -q=m->q<=c->uR P bg bL val s0 H q->(∀t,aX s t=aX (bQ bg val (fun _=>true) s0 q) t)->n0 P z n c (bg.drop q) (bL.drop q) q H s M K->
 ∃(p:Nat)(val':Nat->V)(gb:List (Nat×(Mem->Prop)))(da:aI),q<=p/\p<=c/\(∀i,i<q->val' i=val i)/\uR P bg bL val' s0 gb p/\(∀t,aX da t=aX (bQ bg val' (fun _=>true) s0 p) t)/\
  (∀i,q<=i->i<p->∃o,bg[i]? =some o/\bL[i]? =some none/\gr P o (bQ bg val' (fun _=>true) s0 i) M (val' i))/\
  ∃o l,bg[p]? =some o/\bL[p]? =some (some l)/\n0 P z n c (o::bg.drop (p+1)) (some l::bL.drop (p+1)) p gb da M K
 |0,q,val,H,s,hm,aG,gl,ak,h=>by
  have e:q=c:=by omega
  subst e;obtain⟨l,ag⟩:=zM;have my:bg.drop q=bg[q]::bg.drop (q+1):=qU qg;have wZ:bL.drop q=bL[q]'(by omega)::bL.drop (q+1):=qU (by omega);have g3:bL[q]'(by omega)=some l:=(bo.1 ag).2;rw[my,wZ,g3] at h;exact⟨q,val,H,s,cH _,cH _,fun _ _=>rfl,gl,ak,fun i aa af=>by omega,_,l,by simp,ag,h⟩
 |m+1,q,val,H,s,hm,aG,gl,ak,h=>by
  have Nx:q<bg.length:=by omega
  have my:bg.drop q=bg[q]::bg.drop (q+1):=qU Nx;have wZ:bL.drop q=bL[q]'(by omega)::bL.drop (q+1):=qU (by omega);have kl:bg[q]? =some bg[q]:=by simp
  have xl:bL[q]? =some (bL[q]'(by omega)):=by simp
  rw[my,wZ] at h;generalize bg[q]=o at*;generalize bL[q]'(by omega)=f at*;cases f with
  |some l=>exact⟨q,val,H,s,cH _,aG,fun _ _=>rfl,gl,ak,fun i aa af=>by omega,o,l,kl,xl,h⟩
  |none=>
   obtain⟨oh,tN⟩:=bl q o kl xl;simp only[n0] at h;obtain⟨v,aO,aa,af,az⟩:=Pw oh h;have cut:∀i,i<=q->∀t,aX (bQ bg (fun i=>if i=q then v else val i) (fun _=>true) s0 i) t=aX (bQ bg val (fun _=>true) s0 i) t:=fun i hi t=>
    hn i rfl fun j ap _=>⟨rfl,fun _=>if_neg (by omega)⟩;have MZ:jA bg q=o.dst:=by simp only[jA,kl]
   obtain⟨p,val',gb,da,bI,ce,dS,ft,fl,ij,m6⟩:=N3 hlen qg zM bl m (q+1) (fun i=>if i=q then v else val i) ((q,go P o s (p8 aO o.dst))::H) aO (by omega) (by omega) (by
    intro i x hi ad aD aB aw ah ag;by_cases rG:i=q
    . subst rG
      rw[kl] at ad;simp only[aW] at ad;subst ad;have e:ey i i=true:=by simp
      simp only[nL,e] at ag;obtain⟨d,ph⟩:∃d,o.dst=some d:=Option.ne_none_iff_exists'.1 aw;have aq:p8 aO o.dst=v:=by rw[ph,p8,af d,hd,if_pos ph]
      rw[aq] at ag;have:=RL oh tN aB aa aw ag;simp only[if_true];exact this.move oh fun t _=>(ak t).trans (cut i (cH _) t).symm
    . have e:ey q i=false:=by
       cases aj:ey q i with
       |false=>rfl
       |true=>exact absurd (oV aj).symm rG
      simp only[nL,e] at ag;have:=gl i x (by omega) ad aD aB aw ah ag;show gr P x _ ah (if i=q then v else val i);rw[if_neg rG];exact this.move (bl i x ad aD).1 fun t _=>(cut i (by omega) t).symm) (fun t=>by
    rw[af t];simp only[bQ,cond_true,MZ,if_true];rw[hd,hd,ak t,cut q (cH _) t]) az;refine⟨p,val',gb,da,by omega,ce,fun i hi=>(dS i (by omega)).trans (if_neg (by omega)),ft,fl,fun i vq mE=>?_,m6⟩;by_cases rG:i=q
   . subst rG
     refine⟨o,kl,xl,?_⟩;have aq:val' i=v:=(dS i (by omega)).trans (if_pos rfl);rw[aq];refine aa.move oh fun t _=>?_;rw[ak t];exact hn i rfl fun j ap _=>⟨rfl,fun _=>((dS j (by omega)).trans (if_neg (by omega))).symm⟩
   . exact ij i (by omega) mE
structure K4(aF:Array Oper)(bg bk:List bw)(bL:List (Option (List Nat)))(aS:Nat->Nat)(c d:Nat)(z:List V):Prop where
 TG:wy false (c+1) aF bg bk bL aS
 lt:c<aF.size
 alloc:bk[c]? =some ⟨some d,.alloc z,false,none⟩
 fla:∃l,bL[c]? =some (some l)
 before:∀(p:Nat)(o:bw)(l:List Nat),p<c->bk[p]? =some o->bL[p]? =some (some l)->o.guard=none/\(∀i,p<i->i<aF.size->i≠c->iE aF (aS p) (aS i))/\
  ∀(j:Nat)(x:bw),j<p->bk[j]? =some x->iE aF (aS j) (aS p)∨(j∈l/\x.guard=none/\x.dst≠none/\bL[j]? =some none)
 QD:∀(l:List Nat),bL[c]? =some (some l)->(∀i,c<i->i<aF.size->iE aF (aS c) (aS i))/\∀(j:Nat)(x:bw),j<c->bk[j]? =some x->bL[j]? =some none->iE aF (aS j) (aS c)∨(j∈l/\x.guard=none/\x.dst≠none)
abbrev YZ(P:Program)(w0:World)(Γ0:Env)(n:Nat)(aF:Array Oper)(bk:List bw)(bL:List (Option (List Nat)))(aS:Nat->Nat)(s:aI)(K:aI->Mem->Prop)(Q:Exit->Act->World->Prop)(c d id:Nat)(z:List V)(fuel:Nat):Prop:=
 ∀(e:Bool)(bc:Array Bool)(a:Act)(w:World)(Γ:Env)(p:Nat)(val:Nat->V)(H:List (Nat×(Mem->Prop)))(da:aI)(M:Mem),
    (c5 aF.size).countP (fun i=>!bc.getD i true)<=fuel->bc.size=aF.size->
    (∀k o,aF[k]? =some o->bc.getD k true=true->∀e∈o.after,Region.binds .any e=true->bc.getD e.on true=true)->
    p<=c->(e=true->p<c)->M[id]? =some .dead->bc.getD (aS c) true=e->(∀i,p<=i->i<aF.size->i≠c->bc.getD (aS i) true=false)->
    (∀i,i<p->bc.getD (aS i) true=false->∃o,bk[i]? =some o/\bL[i]? =some none/\gr P o (bQ bk val (fun _=>true) s i) M (val i))->
    uR P bk bL val s H p->(∀t,aX da t=aX (bQ bk val (fun _=>true) s p) t)->
    (∃o l,bk[p]? =some o/\bL[p]? =some (some l)/\n0 P z id c (o::bk.drop (p+1)) (some l::bL.drop (p+1)) p H da M K)->
    cF w0 Γ0 n w Γ (bif e then eP (bQ bk val (fun i=>bc.getD (aS i) true) s p) d (.ptr id 0) else bQ bk val (fun i=>bc.getD (aS i) true) s p) (bif e then M.set id (.box z) else M) a->
    wpAny P .any aF Q fuel bc a w
theorem aLl{aF:Array Oper}{bg bk:List bw}{bL:List (Option (List Nat))}{aS:Nat->Nat}{c d id:Nat}{z:List V}{mu:List Nat}{Q:Exit->Act->World->Prop}{K:aI->Mem->Prop}(fs:pP P n mu aF 0 aF.toList=some bg)(cV:K4 aF bg bk bL aS c d z)
 (gw:∀aO ah dt w' Γ',cF w0 Γ0 n w' Γ' aO ah dt->K aO ah->Q .normal dt w'):∀fuel:Nat,YZ P w0 Γ0 n aF bk bL aS s K Q c d id z fuel:=by
 have bN:=cV.TG;obtain⟨hlen,gx⟩:=EI _ _ _ fs;simp only[ee] at gx;have jD:=bN.back;have ar:=cV.lt;have nC:∀i,i<aF.size->∃o co,aF[aS i]? =some o/\bk[i]? =some co/\s6 P n mu aF (aS i) o=some co:=fun i hi=>by
  have ag:=bN.lt i hi;obtain⟨co,aa,af⟩:=gx (aS i) (aF[aS i]) (by simp[ag]);exact⟨_,co,by simp[ag],by rw[bN.get i hi];exact aa,af⟩
 have tZ:bk.length=bL.length:=by rw[bN.len,bN.zs]
 have main:=Sw (P:=P) (w0:=w0) (Γ0:=Γ0) (s:=s) (K:=K) fs bN gw;have aH9:∀k y,bk[k]? =some y->jA bk k=y.dst:=fun k y aE=>by simp only[jA,aE]
 have QC:∀(fuel:Nat)(bc:Array Bool)(a:Act)(w:World)(Γ:Env)(val:Nat->V)(H:List (Nat×(Mem->Prop)))(da:aI)(M:Mem),
  (c5 aF.size).countP (fun i=>!bc.getD i true)<=fuel->bc.size=aF.size->
  (∀k o,aF[k]? =some o->bc.getD k true=true->∀e∈o.after,Region.binds .any e=true->bc.getD e.on true=true)->
  bc.getD (aS c) true=true->(∀i,c<i->i<aF.size->bc.getD (aS i) true=false)->
  (∀i,i<c->bc.getD (aS i) true=false->∃o,bk[i]? =some o/\bL[i]? =some none/\gr P o (bQ bk val (fun _=>true) s i) M (val i))->
  uR P bk bL val s H c->(∀t,aX da t=aX (bQ bk val (fun _=>true) s c) t)->
  (∃o l,bk[c]? =some o/\bL[c]? =some (some l)/\n0 P z id c (o::bk.drop (c+1)) (some l::bL.drop (c+1)) c H da M K)->
  cF w0 Γ0 n w Γ (eP (bQ bk val (fun i=>bc.getD (aS i) true) s c) d (.ptr id 0)) (M.set id (.box z)) a->wpAny P .any aF Q fuel bc a w:=by
  intro fuel bc a w Γ val H da M mC gm dg hs eD me gl jF ⟨o,l,aA,ag,hw⟩ bl;rw[cV.alloc] at aA;simp only[aW] at aA;subst aA;have aj:ey c c=true:=by simp
  simp only[n0,aj] at hw;obtain⟨xM,g3⟩:=hw;have g3:mm P (bk.drop (c+1)) (bL.drop (c+1)) (c+1) H (eP da d (.ptr id 0)) (M.set id (.box z)) K:=g3;obtain⟨qc,aHM⟩:=cV.QD l ag;have mA:∀k,k<aF.size->bc.getD k true=true->∀j,iE aF j k->bc.getD j true=true:=fun k ao gO j ap=>by
   obtain⟨q,aG,rfl⟩:=bN.yE k ao;obtain⟨ok,_,b7,_⟩:=nC q aG;exact ss jD (L:=fun j=>bc.getD j true) dg (aS q+1) (aS q) (by omega) ok b7 (dg (aS q) ok b7 gO) j ap
  have rB:∀m,m<=c->∀t(L:Nat->Bool),aX (bQ bk (fun j=>if j=c then .ptr id 0 else val j) L s m) t=aX (bQ bk val L s m) t:=fun m hm t L=>
   hn m rfl fun j ap _=>⟨rfl,fun _=>if_neg (by omega)⟩;have Ug:jA bk c=some d:=aH9 c _ cV.alloc;obtain⟨p',val',gb,oK,bI,ce,dS,ft,fl,ij,m6⟩:=BF (P:=P) (M:=M.set id (.box z)) (K:=K) (s0:=s) tZ bN.AQ (bk.length -(c+1)) (c+1) (fun j=>if j=c then .ptr id 0 else val j) H (eP da d (.ptr id 0)) rfl (by rw[bN.len];omega) (by
   intro j x ap ad aD aB aw cE fc;by_cases eE:j=c
   . subst eE
     rw[ag] at aD;simp at aD
   . have:=gl j x (by omega) ad aD aB aw cE fc
     show gr P x _ cE (if j=c then _ else val j);rw[if_neg eE];exact this.move (bN.still j x ad aD).1 fun t _=>(rB j (by omega) t _).symm) (fun t=>by
   simp only[bQ,cond_true,if_true,Ug];rw[mi,hd,jF t,rB c (cH _) t];simp only[aW,eq_comm]) g3;rw[bN.len] at ce;have kp:∀m,m<=c->∀t(L:Nat->Bool),aX (bQ bk val' L s m) t=aX (bQ bk val L s m) t:=fun m hm t L=>
   hn m rfl fun j ap _=>⟨rfl,fun _=>(dS j (by omega)).trans (if_neg (by omega))⟩;refine(main fuel).1 bc a w Γ p' val' gb oK (M.set id (.box z)) mC gm dg bI ce (fun j ap ix=>eD j (by omega) ix) (fun j ap ex=>?_) ft fl ?_ ?_
  . rcases Nat.lt_trichotomy j c with bx|heq|tU
    . obtain⟨x,ad,hr,_⟩:=me j bx ex
      rcases aHM j x bx ad hr with aj|⟨aT,a2,bJ⟩
      . rw[mA _ (bN.lt c ar) hs _ aj] at ex;cases ex
      . refine⟨x,ad,hr,?_⟩
        have:=gl j x bx ad hr a2 bJ _ (EH xM j aT);rw[(dS j (by omega)).trans (if_neg (by omega))];exact this.move (bN.still j x ad hr).1 fun t _=>(kp j (by omega) t _).symm
    . subst heq
      rw[hs] at ex;cases ex
    . exact ij j (by omega) ap
  . rcases m6 with⟨aa,af⟩|h
    . exact .inl ⟨aa.trans bN.len,af⟩
    . exact .inr h
  . refine⟨bl.gd,fun t=>?_,bl.size,bl.defers,bl.ext⟩
    have a4:bQ bk val' (fun j=>bc.getD (aS j) true) s p'=bQ bk val' (fun j=>bc.getD (aS j) true) s (c+1):=
     sr p' (by omega) fun j aa af=>eD j (by omega) (by omega);have rN:val' c=.ptr id 0:=(dS c (by omega)).trans (if_pos rfl);have:=bl.gV t;rw[a4];simp only[bQ,hs,cond_true,Ug,rN];rw[hd,kp c (cH _) t];rw[mi] at this;simp only[aW];by_cases pB:t=d
    . rw[if_pos pB] at this;rw[if_pos pB.symm];exact this
    . rw[if_neg pB] at this;rw[if_neg (gq pB)];exact this
 intro fuel;induction fuel with
 |zero=>
  intro e bc a w Γ p val H da M mC gm dg ay Da zH hs eD me gl jF hq bl;have a8:(c5 aF.size).countP (fun i=>!bc.getD i true)=0:=by omega
  rw[List.countP_eq_zero] at a8;exfalso;cases e with
  |false=>
   have aa:=a8 (aS c) (ka.2 (bN.lt c ar));rw[hs] at aa;exact aa rfl
  |true=>
   have:=Da rfl;have aa:=a8 (aS p) (ka.2 (bN.lt p (by omega)));rw[eD p (cH _) (by omega) (by omega)] at aa;exact aa rfl
 |succ fuel bu=>
  intro e bc a w Γ p val H da M mC gm dg ay Da zH hs eD me gl jF hq bl;have fJ:∀i b iW,i<aF.size->bc.getD i b=bc.getD i iW:=fun i b iW hi=>by simp[gm,hi]
  have nz:∀i,i<aF.size->bc.getD i true=false->(c5 aF.size).countP (fun j=>!(bc.setIfInBounds i true).getD j true)<=fuel:=fun i hi hu=>by
   have:=Bo (p:=fun j=>!bc.getD j true) (p':=fun j=>!(bc.setIfInBounds i true).getD j true) (i:=i) (by simp only[hu];rfl) (by simp[gm,hi]) (fun j ap=>by simp only[getD_set_ne true (gq ap)]) aF.size;rw[if_pos hi] at this;omega
  have ny:∀i o,aF[i]? =some o->(∀e∈o.after,Region.binds .any e=true->bc.getD e.on false=true)->
   (∀k o,aF[k]? =some o->(bc.setIfInBounds i true).getD k true=true->∀e∈o.after,Region.binds .any e=true->(bc.setIfInBounds i true).getD e.on true=true):=fun i o aA an k o' ei ao e he aj=>by
   have zQ:k<aF.size:=(lp.1 ei).1;have bx:e.on<aF.size:=by have:=n_ aF.toList 0 jD k o' e (by simpa using ei) he aj;omega
   have key:bc.getD e.on true=true->(bc.setIfInBounds i true).getD e.on true=true:=fun h=>by
    by_cases rE:i=e.on
    . subst rE;simp[gm,bx]
    . rw[getD_set_ne true rE];exact h
   by_cases gH:k=i
   . subst gH
     rw[aA] at ei;simp only[aW] at ei;subst ei;exact key ((fJ _ _ _ bx).trans (an e he aj))
   . rw[getD_set_ne true (gq gH)] at ao
     exact key (dg k o' ei ao e he aj)
  have aJi:∃i,i<aF.size/\bc.getD (aS i) true=false:=by
   cases e with
   |false=>exact⟨c,ar,hs⟩
   |true=>have:=Da rfl;exact⟨p,by omega,eD p (cH _) (by omega) (by omega)⟩
  refine⟨fun rL=>?_,fun aC hi=>?_⟩
  . have eg:∀m i,i<m->i<aF.size->bc.getD i true=true:=by
     intro m;induction m with
     |zero=>intro i h;exact absurd h (e8 i)
     |succ m x1=>
      intro i xA hi;cases hu:bc.getD i true with
      |true=>rfl
      |false=>
       have an:i∈Region.ready .any aF bc:=mem_ready.2 ⟨hu,aF[i],by simp[hi],fun e he aj=>by
        have bx:e.on<i:=by have:=n_ aF.toList 0 jD i aF[i] e (by simp[hi]) he aj;omega
        exact(fJ _ _ _ (by omega)).trans (x1 e.on (by omega) (by omega))⟩;rw[rL] at an;cases an
    obtain⟨i,aa,af⟩:=aJi;rw[eg (aS i+1) (aS i) (by omega) (bN.lt i aa)] at af;cases af
  . obtain⟨hu,o,aA,an⟩:=mem_ready.1 hi
    have m2:aC<aF.size:=(lp.1 aA).1;obtain⟨i,fD,rfl⟩:=bN.yE aC m2;obtain⟨o',co,ei,fh,px⟩:=nC i fD;rw[aA] at ei;simp only[aW] at ei;subst ei;have l7:∀j,iE aF j (aS i)->bc.getD j true=true:=fun j ap=>
     ss jD (L:=fun j=>bc.getD j true) dg (aS i+1) (aS i) (by omega) o aA (fun e he aj=>by
      have bx:e.on<aS i:=by have:=n_ aF.toList 0 jD (aS i) o e (by simpa using aA) he aj;omega
      exact(fJ _ _ _ (by omega)).trans (an e he aj)) j ap;have mA:∀k,k<aF.size->bc.getD k true=true->∀j,iE aF j k->bc.getD j true=true:=fun k ao gO j ap=>by
     obtain⟨q,aG,rfl⟩:=bN.yE k ao;obtain⟨ok,_,b7,_⟩:=nC q aG;exact ss jD (L:=fun j=>bc.getD j true) dg (aS q+1) (aS q) (by omega) ok b7 (dg (aS q) ok b7 gO) j ap
    have e0:∀j,j<aF.size->j≠i->(bc.setIfInBounds (aS i) true).getD (aS j) true=bc.getD (aS j) true:=fun j ap eE=>
     getD_set_ne true fun e=>eE (bN.inj j i ap fD e.symm);have m5:(bc.setIfInBounds (aS i) true).getD (aS i) true=true:=by simp[gm,bN.lt i fD]
    have jo:∀k y,bk[k]? =some y->jA bk k=y.dst:=fun k y aE=>by simp only[jA,aE]
    have sJ:∀k t,k<aF.size->jA bk k=some t->∃y,bk[k]? =some y/\y.dst=some t:=fun k t ao aw=>by
     obtain⟨_,y,_,aE,_⟩:=nC k ao;exact⟨y,aE,by rw[<-jo k y aE];exact aw⟩
    have LW:e=true->∀j y,j<c->bc.getD (aS j) true=false->bk[j]? =some y->y.dst≠some d/\d∉y.cQ:=fun he j y sL ex aE=>by
     rcases bN.apart j c y _ sL ar aE cV.alloc with aj|eC
     . rw[mA _ (bN.lt _ ar) (hs.trans he) _ aj] at ex;cases ex
     . exact⟨fun e=>(lA eC).2.1 d e rfl,(lA eC).2.2 d rfl⟩
    have dj:∀(L:Nat->Bool)(t:Nat),aX (bif e then eP (bQ bk val L s p) d (.ptr id 0) else bQ bk val L s p) t=if e=true/\t=d then .ptr id 0 else aX (bQ bk val L s p) t:=fun L t=>by
     cases e with
     |false=>simp
     |true=>simp[mi]
    by_cases pn:i<p
    . obtain⟨Qv,rv,tS,vi⟩:=me i pn hu
      rw[fh] at rv;simp only[aW] at rv;subst rv;obtain⟨t6,vy⟩:=bN.still i co fh tS;have vy:co.op.jH=false:=vy.resolve_right fun q=>by cases q.1
      have aH5:gr P co (bQ bk val (fun _=>true) s i) (bif e then M.set id (.box z) else M) (val i):=by
       cases e with
       |false=>exact vi
       |true=>exact vi.aQr t6 vy zH
      have kG:∀t∈co.cQ,aX (bQ bk val (fun _=>true) s i) t=aX (bif e then eP (bQ bk val (fun i=>bc.getD (aS i) true) s p) d (.ptr id 0) else bQ bk val (fun i=>bc.getD (aS i) true) s p) t:=fun t aV=>by
       rw[dj,if_neg (fun q=>(LW q.1 i co (by omega) hu fh).2 (by rw[<-q.2];exact aV))];have a4:bQ bk val (fun k=>decide (k<i)) s p=bQ bk val (fun k=>decide (k<i)) s i:=sr p (by omega) fun j aa _=>by simp;omega
       have bd:aX (bQ bk val (fun _=>true) s i) t=aX (bQ bk val (fun k=>decide (k<i)) s i) t:=hn i rfl fun j ap _=>⟨by simp[ap],fun _=>rfl⟩;rw[bd,<-a4];refine hn p rfl fun k ao fi=>⟨?_,fun _=>rfl⟩;obtain⟨y,aE,mg⟩:=sJ k t (by omega) fi;rcases Nat.lt_trichotomy k i with bx|heq|tU
       . rw[decide_eq_true bx]
         rcases bN.apart k i y co bx fD aE fh with aj|eC
         . exact(l7 _ aj).symm
         . exact absurd aV ((lA eC).1 t mg)
       . subst heq
         rw[hu];simp
       . rw[decide_eq_false (by omega)]
         rcases bN.apart i k co y tU (by omega) fh aE with aj|eC
         . cases ag:bc.getD (aS k) true with
           |false=>rfl
           |true=>rw[mA _ (bN.lt k (by omega)) ag _ aj] at hu;cases hu
         . exact absurd aV ((lA eC).2.2 t mg)
      have xx:=aH5.move t6 kG;refine wx aA px bl xx ?_;rintro aO ah dt w' Γ' ct ⟨la,rfl⟩;refine bu e (bc.setIfInBounds (aS i) true) dt w' Γ' p val H da M (nz _ (bN.lt i fD) hu) (by simp[gm]) (ny _ o aA an) ay Da zH (by rw[e0 c ar (by omega)];exact hs) (fun j ap ix sL=>?_) (fun j ap ex=>?_) gl jF hq ⟨ct.gd,fun t=>?_,ct.size,ct.defers,ct.ext⟩
      . rw[e0 j ix (by omega)];exact eD j ap ix sL
      . by_cases eE:j=i
        . subst eE;rw[m5] at ex;cases ex
        . rw[e0 j (by omega) eE] at ex
          exact me j ap ex
      . have:=ct.gV t
        rw[la t,hd,dj] at this;rw[dj];have a4:aX (bQ bk val (fun j=>(bc.setIfInBounds (aS i) true).getD (aS j) true) s p) t=if co.dst=some t then val i else aX (bQ bk val (fun j=>bc.getD (aS j) true) s p) t:=by
         have vg:∀(L:Nat->Bool),aX (bQ bk val L s p) t=aX (bQ bk val (fun j=>if j<aF.size then L j else false) s p) t:=fun L=>hn p rfl fun j ap _=>⟨by rw[if_pos (by omega)],fun _=>rfl⟩;rw[vg,vg (fun j=>bc.getD (aS j) true),<-jo i co fh];refine Fu (i:=i) (by rw[if_pos fD];exact hu) (by rw[if_pos fD];exact m5) (fun j eE=>?_) p pn fun j aa af az bh=>?_
         . split
           . rename_i ap;exact e0 j ap eE
           . rfl
         . rw[if_pos (by omega)]
           obtain⟨y,aE,mg⟩:=sJ j t (by omega) az;rw[jo i co fh] at bh;rcases bN.apart i j co y aa (by omega) fh aE with aj|eC
           . cases ag:bc.getD (aS j) true with
             |false=>rfl
             |true=>rw[mA _ (bN.lt j (by omega)) ag _ aj] at hu;cases hu
           . exact absurd mg ((lA eC).2.1 t bh)
        rw[a4];by_cases aw:e=true/\t=d
        . rw[if_pos aw]
          rw[if_neg (fun q=>(LW aw.1 i co (by omega) hu fh).1 (by rw[q,aw.2])),if_pos aw] at this;exact this
        . rw[if_neg aw]
          rw[if_neg aw] at this;exact this
    . by_cases xy:i=c
      . have he:e=false:=by rw[<-hs,<-xy];exact hu
        subst he;have kl:=cV.alloc;rw[<-xy,fh] at kl;simp only[aW] at kl;subst kl;simp only[cond_false] at bl;refine Yc aA px bl (id:=id) zH ?_;intro dt w' Γ' ct;have Di:(bc.setIfInBounds (aS i) true).getD (aS c) true=true:=by rw[<-xy];exact m5
        have md:cF w0 Γ0 n w' Γ' (eP (bQ bk val (fun j=>(bc.setIfInBounds (aS i) true).getD (aS j) true) s p) d (.ptr id 0)) (M.set id (.box z)) dt:=by
         refine⟨ct.gd,fun t=>?_,ct.size,ct.defers,ct.ext⟩;have a4:aX (bQ bk val (fun j=>(bc.setIfInBounds (aS i) true).getD (aS j) true) s p) t=aX (bQ bk val (fun j=>bc.getD (aS j) true) s p) t:=hn p rfl fun j ap _=>⟨e0 j (by omega) (by omega),fun _=>rfl⟩;have:=ct.gV t;rw[mi] at this⊢;rw[a4];exact this
        have DC:∀j,j<p->(bc.setIfInBounds (aS i) true).getD (aS j) true=false->∃o,bk[j]? =some o/\bL[j]? =some none/\gr P o (bQ bk val (fun _=>true) s j) M (val j):=fun j ap ex=>by
         rw[e0 j (by omega) (by omega)] at ex;exact me j ap ex
        by_cases qp:p=c
        . subst qp
          exact QC fuel (bc.setIfInBounds (aS i) true) dt w' Γ' val H da M (nz _ (bN.lt i fD) hu) (by simp[gm]) (ny _ o aA an) Di (fun j aa af=>by rw[e0 j af (by omega)];exact eD j (by omega) af (by omega)) DC gl jF hq md
        . exact bu true (bc.setIfInBounds (aS i) true) dt w' Γ' p val H da M (nz _ (bN.lt i fD) hu) (by simp[gm]) (ny _ o aA an) ay (fun _=>by omega) zH Di (fun j aa af az=>by rw[e0 j af (by omega)];exact eD j aa af az) DC gl jF hq md
      . have xz:i=p:=by
         rcases mR p i with bx|pl
         . exfalso
           obtain⟨hQ,l,jX,og,qt⟩:=hq;rcases mR p c with qp|qp
           . have:=l7 _ ((cV.before p hQ l qp jX og).2.1 i bx fD xy)
             rw[eD p (cH _) (by omega) (by omega)] at this;cases this
           . have qq:p=c:=by omega
             have aa:=l7 _ ((cV.QD l (by rw[<-qq];exact og)).1 i (by omega) fD);rw[hs] at aa;have:=Da aa;omega
         . omega
        subst xz;obtain⟨hQ,l,jX,og,qt⟩:=hq;rw[fh] at jX;simp only[aW] at jX;subst jX;have Uy:i<c:=by omega
        obtain⟨vz,qc,C1⟩:=cV.before i co l Uy fh og;have ph:=fun he=>LW he i co Uy hu fh;have kG:∀t∈co.cQ,aX da t=aX (bif e then eP (bQ bk val (fun i=>bc.getD (aS i) true) s i) d (.ptr id 0) else bQ bk val (fun i=>bc.getD (aS i) true) s i) t:=fun t aV=>by
         rw[dj,if_neg (fun q=>(ph q.1).2 (by rw[<-q.2];exact aV)),jF t];refine hn i rfl fun k ao fi=>⟨?_,fun _=>rfl⟩;obtain⟨y,aE,mg⟩:=sJ k t (by omega) fi;rcases bN.apart k i y co ao fD aE fh with aj|eC
         . exact(l7 _ aj).symm
         . exact absurd aV ((lA eC).1 t mg)
        have C8:jA bk i=co.dst:=jo i co fh;have qe:ey i c=false:=by
         cases aj:ey i c with
         |false=>rfl
         |true=>exact absurd (oV aj) xy
        obtain⟨dst,op,bz,g⟩:=co;simp only at vz ph C8;subst vz;simp only[n0,qe] at qt;split at qt;rotate_left
        . exact qt.elim
        rename_i f args;obtain⟨v,cE,C7,tN,MQ,ao⟩:=qt;rw[v9] at ao;obtain⟨i8,xM,g3⟩:=ao;have zD:e_ da args=e_ (bif e then eP (bQ bk val (fun i=>bc.getD (aS i) true) s i) d (.ptr id 0) else bQ bk val (fun i=>bc.getD (aS i) true) s i) args:=w9 fun t aV=>kG t (by simpa[bw.cQ,dM.cQ] using aV);generalize aHz:(bif e then eP (bQ bk val (fun i=>bc.getD (aS i) true) s i) d (.ptr id 0) else bQ bk val (fun i=>bc.getD (aS i) true) s i)=gi at bl zD kG;have DE:hz P false ⟨dst,.call f args,bz,none⟩ gi (bif e then M.set id (.box z) else M) (fun aO ah=>aO=bA gi dst v/\ah=bif e then cE.set id (.box z) else cE):=by
         show b9 P f (e_ gi args) _ (fun dT ah=>kN gi dst bz dT (fun aO=>aO=bA gi dst v/\ah=bif e then cE.set id (.box z) else cE));rw[<-zD];cases e with
         |false=>exact tN.mono fun x N ⟨aa,af⟩=>by subst aa af;rw[v9];exact⟨i8,rfl,rfl⟩
         |true=>exact MQ.mono fun x N ⟨aa,af⟩=>by subst aa af;rw[v9];exact⟨i8,rfl,rfl⟩
        refine wx aA px bl DE ?_;rintro aO ah dt w' Γ' ct ⟨rfl,rfl⟩;have rB:∀m,m<=i->∀t(L:Nat->Bool),aX (bQ bk (fun j=>if j=i then v else val j) L s m) t=aX (bQ bk val L s m) t:=fun m hm t L=>
         hn m rfl fun j ap _=>⟨rfl,fun _=>if_neg (by omega)⟩;obtain⟨p',val',gb,oK,bI,ce,dS,ft,fl,ij,m6⟩:=N3 (P:=P) (M:=cE) (K:=K) (s0:=s) (z:=z) (n:=id) (c:=c) tZ (by rw[bN.len];exact ar) cV.fla bN.AQ (c -(i+1)) (i+1) (fun j=>if j=i then v else val j) H (bA da dst v) rfl (by omega) (by
         intro j x ap ad aD aB aw y4 ag;by_cases eE:j=i
         . subst eE
           rw[og] at aD;simp at aD
         . have:=gl j x (by omega) ad aD aB aw y4 ag
           show gr P x _ y4 (if j=i then v else val j);rw[if_neg eE];exact this.move (bN.still j x ad aD).1 fun t _=>(rB j (by omega) t _).symm) (fun t=>by
         simp only[bQ,cond_true,if_true,C8];rw[hd,hd,jF t,rB i (cH _) t]) g3;have rN:val' i=v:=(dS i (by omega)).trans (if_pos rfl);have kp:∀m,m<=i->∀t(L:Nat->Bool),aX (bQ bk val' L s m) t=aX (bQ bk val L s m) t:=fun m hm t L=>
         hn m rfl fun j ap _=>⟨rfl,fun _=>(dS j (by omega)).trans (if_neg (by omega))⟩;have DC:∀j,j<p'->(bc.setIfInBounds (aS i) true).getD (aS j) true=false->∃o,bk[j]? =some o/\bL[j]? =some none/\gr P o (bQ bk val' (fun _=>true) s j) cE (val' j):=fun j ap ex=>by
         rcases Nat.lt_trichotomy j i with bx|heq|tU
         . rw[e0 j (by omega) (by omega)] at ex
           obtain⟨x,ad,hr,_⟩:=me j bx ex;rcases C1 j x bx ad with aj|⟨aT,a2,bJ,c8⟩
           . rw[l7 _ aj] at ex;cases ex
           . refine⟨x,ad,hr,?_⟩
             have:=gl j x bx ad hr a2 bJ cE (EH xM j aT);rw[(dS j (by omega)).trans (if_neg (by omega))];exact this.move (bN.still j x ad hr).1 fun t _=>(kp j (by omega) t _).symm
         . subst heq
           rw[m5] at ex;cases ex
         . exact ij j (by omega) ap
        have Di:(bc.setIfInBounds (aS i) true).getD (aS c) true=e:=by rw[e0 c ar (by omega)];exact hs
        have Uw:∀j,p'<=j->j<aF.size->j≠c->(bc.setIfInBounds (aS i) true).getD (aS j) true=false:=fun j ap ix sL=>by rw[e0 j ix (by omega)];exact eD j (by omega) ix sL
        have eA:∀t,aX (bif e then eP (bQ bk val' (fun j=>(bc.setIfInBounds (aS i) true).getD (aS j) true) s p') d (.ptr id 0) else bQ bk val' (fun j=>(bc.setIfInBounds (aS i) true).getD (aS j) true) s p') t=aX (bA gi dst v) t:=fun t=>by
         have a4:bQ bk val' (fun j=>(bc.setIfInBounds (aS i) true).getD (aS j) true) s p'=bQ bk val' (fun j=>(bc.setIfInBounds (aS i) true).getD (aS j) true) s (i+1):=
          sr p' (by omega) fun j aa af=>by rw[e0 j (by omega) (by omega)];exact eD j (by omega) (by omega) (by omega)
         have bd:aX (bQ bk val' (fun j=>(bc.setIfInBounds (aS i) true).getD (aS j) true) s i) t=aX (bQ bk val (fun j=>bc.getD (aS j) true) s i) t:=by
          rw[kp i (cH _) t];exact hn i rfl fun j ap _=>⟨e0 j (by omega) (by omega),fun _=>rfl⟩
         have e3:aX (bQ bk val' (fun j=>(bc.setIfInBounds (aS i) true).getD (aS j) true) s (i+1)) t=if dst=some t then v else aX (bQ bk val (fun j=>bc.getD (aS j) true) s i) t:=by
          simp only[bQ,m5,cond_true,C8,rN];rw[hd,bd]
         rw[a4,hd,<-aHz,dj];cases e with
         |false=>
          simp only[cond_false,e3];rw[if_neg (show¬(false=true/\t=d) from fun q=>by cases q.1)]
         |true=>
          simp only[cond_true,mi,true_and,e3];by_cases pB:t=d
          . rw[if_pos pB,if_neg (fun q=>(ph rfl).1 (by rw[q,pB])),if_pos pB]
          . rw[if_neg pB,if_neg pB]
        have md:cF w0 Γ0 n w' Γ' (bif e then eP (bQ bk val' (fun j=>(bc.setIfInBounds (aS i) true).getD (aS j) true) s p') d (.ptr id 0) else bQ bk val' (fun j=>(bc.setIfInBounds (aS i) true).getD (aS j) true) s p') (bif e then cE.set id (.box z) else cE) dt:=
         ⟨ct.gd,fun t=>by rw[eA t];exact ct.gV t,ct.size,ct.defers,ct.ext⟩;by_cases ad:e=true/\p'=c
        . obtain⟨rfl,rfl⟩:=ad
          exact QC fuel (bc.setIfInBounds (aS i) true) dt w' Γ' val' gb oK cE (nz _ (bN.lt i fD) hu) (by simp[gm]) (ny _ o aA an) Di (fun j aa af=>Uw j (by omega) af (by omega)) DC ft fl m6 md
        . exact bu e (bc.setIfInBounds (aS i) true) dt w' Γ' p' val' gb oK cE (nz _ (bN.lt i fD) hu) (by simp[gm]) (ny _ o aA an) ce (fun he=>by rcases mR p' c with h|h;exact h;exact absurd ⟨he,by omega⟩ ad) C7 Di Uw DC ft fl m6 md
theorem aLm{aOi:Nat}{aF:Array Oper}{bg bk:List bw}{bL:List (Option (List Nat))}{aS:Nat->Nat}{c d:Nat}{z:List V}{mu:List Nat}{Q:Exit->Act->World->Prop}{K:aI->Mem->Prop}(Do:P.follows .mixedOrders=true)(fs:pP P n mu aF 0 aF.toList=some bg)(cV:K4 aF bg bk bL aS c d z)
 (vE:cF w0 Γ0 n w Γ s M a)(zZ:n0 P z M.length c bk bL 0 [] s (M++[.dead]) K)(gw:∀aO ah dt w' Γ',cF w0 Γ0 n w' Γ' aO ah dt->K aO ah->Q .normal dt w'):(Code.region aOi aF true).wp P Q a w:=by
 have bN:=cV.TG;have tZ:bk.length=bL.length:=by rw[bN.len,bN.zs]
 refine wp_region_any Do ?_;have mc:cF w0 Γ0 n w.drew Γ s M a:=vE.qB vE.gd.drew (Ext.drew w Γ);have rM:=mc.qB (mc.gd.Hw 0 (B:=.dead) ⟨rfl,rfl⟩) (Ext.ghost w.drew Γ _);obtain⟨p',val',gb,oK,_,ce,_,ft,fl,ij,m6⟩:=N3 (P:=P) (M:=M++[.dead]) (K:=K) (s0:=s) (z:=z) (n:=M.length) (c:=c) tZ (by rw[bN.len];exact cV.lt) cV.fla bN.AQ c 0 (fun _=>.undef) [] s (by omega) (fR _) (fun i o hi=>absurd hi (e8 i)) (fun t=>rfl) (by simpa using zZ);have a_:∀i,i<aF.size->(Array.replicate aF.size false).getD i true=false:=fun i hi=>by simp[hi]
 refine aLl (P:=P) (w0:=w0) (Γ0:=Γ0) (s:=s) (K:=K) (id:=M.length) fs cV gw aF.size false _ a w.drew (Γ.more (tJ Γ.h8 0)) p' val' gb oK (M++[.dead]) ?_ (by simp) ?_ ce (fun h=>by cases h) (by simp) (a_ _ (bN.lt c cV.lt)) (fun i _ hi _=>a_ _ (bN.lt i hi)) (fun i hi _=>ij i (fR _) hi) ft fl m6 ?_
 . have:=List.countP_le_length (p:=fun i=>!(Array.replicate aF.size false).getD i true) (l:=c5 aF.size)
   simpa using this
 . intro k o aA ao
   rw[a_ k (lp.1 aA).1] at ao;cases ao
 . refine⟨rM.gd,fun t=>?_,rM.size,rM.defers,rM.ext⟩
   have e:bQ bk val' (fun i=>(Array.replicate aF.size false).getD (aS i) true) s p'=bQ bk val' (fun i=>(Array.replicate aF.size false).getD (aS i) true) s 0:=
    sr p' (fR _) fun j _ ap=>a_ _ (bN.lt j (by have:=cV.lt;omega));simp only[cond_false];rw[e];exact rM.gV t
theorem Oh{x:bw}(ad:ur x=true):x.guard=none:=by
 unfold ur at ad;split at ad
 . assumption
 . cases ad
theorem aM1{bL:List (Option (List Nat))}{j:Nat}(ap:j<bL.length){d:Option (List Nat)}(h:Et (bL.getD j d)=true):bL[j]? =some none:=by
 rw[kV,gg ap,Option.getD_some] at h;rw[gg ap];unfold Et at h;split at h
 . rename_i e;rw[e]
 . cases h
theorem aMz{rQ c:Nat}{z:List V}{aF:Array Oper}{bg bk:List bw}{bL:List (Option (List Nat))}(h:Oc rQ aF bg=some (c,z,bk,bL)):∃aS d,K4 aF bg bk bL aS c d z:=by
 unfold Oc at h;simp only at h;split at h
 . cases h
 . rename_i aS vr
   split at h
   . cases h
   . rename_i cK rz
     split at h
     . rename_i d Py l' a9 g3
       obtain⟨ar,he⟩:=fg h;simp only[d_] at he;obtain⟨rfl,rfl,rfl,rfl⟩:=he;simp only[cc,List.all_eq_true,ka] at ar;obtain⟨⟨⟨⟨⟨⟨aa,af⟩,az⟩,bh⟩,bC⟩,ca⟩,dY⟩:=ar;have d4:∀i x,(aS.map fun i=>bg.getD i default)[i]? =some x->(aS.map fun i=>bg.getD i default).getD i default=x:=fun i x ad=>by
        rw[kV,ad];rfl
       have bU:∀i k,n9 (gF aF.toList []) aS i k=true->iE aF (aS.getD i 0) (aS.getD k 0):=fun i k aj=>aj;have bd:bg.length=aF.size:=oV af;have e3:(oc (gF aF.toList []) aS (bg.map (oa false)) bg.length).length=bg.length:=by simp[oc]
       have Ur:wy false (cK+1) aF bg _ _ _:=TH (lo:=cK+1) aa af az bh bC ca fun p ay zW=>by
        have:=dY p ay;unfold J1 at this;split at this
        . exact this
        . rename_i l ag
          rcases zW with zW|zW
          . rw[show iw cK p=true from o2.2 zW] at this
            exact this
          . rw[ag] at zW;cases zW
       have bx:cK<aF.size:=by
        have:=(bo.1 a9).1;rw[Ur.len] at this;exact this
       refine⟨_,d,Ur,bx,a9,⟨l',g3⟩,fun p o l ay aA aD=>?_,fun l ag=>?_⟩
       . have:=dY p (by omega)
         unfold J1 at this;rw[kV,aD] at this;simp only[Option.getD_some] at this;rw[show iw cK p=false from(by cases e:iw cK p with|false=>rfl|true=>have:=o2.1 e;omega),show iw p cK=true from o2.2 ay] at this;simp only[cond_true,cond_false,cc,List.all_eq_true,ka] at this;obtain⟨⟨aT,a2⟩,bJ⟩:=this;rw[d4 p o aA] at aT;refine⟨Oh aT,fun i sR hi xy=>?_,fun j x ap ad=>?_⟩
         . have:=a2 i (by omega)
           rw[show iw p i=true from o2.2 sR,show ey i cK=false from(by cases e:ey i cK with|false=>rfl|true=>exact absurd (oV e) xy)] at this;exact bU _ _ (by simpa using this)
         . have:=bJ j ap
           rw[d4 j x ad,Bool.or_eq_true] at this;rcases this with h|h
           . exact .inl (bU _ _ h)
           . simp only[cc] at h
             obtain⟨⟨⟨bI,ce⟩,dS⟩,ft⟩:=h;exact .inr ⟨Am.1 bI,Oh ce,(fun e=>by rw[e] at dS;cases dS),aM1 (by omega) ft⟩
       . have:=dY cK (by omega)
         unfold J1 at this;rw[kV,ag] at this;simp only[Option.getD_some] at this;rw[show iw cK cK=false from(by cases e:iw cK cK with|false=>rfl|true=>have:=o2.1 e;omega)] at this;simp only[cond_false,cc,List.all_eq_true,ka] at this;obtain⟨a2,bJ⟩:=this;refine⟨fun i aHX hi=>?_,fun j x ap ad HP=>?_⟩
         . have:=a2 i (by omega)
           rw[show iw cK i=true from o2.2 aHX] at this;exact bU _ _ (by simpa using this)
         . have:=bJ j ap
           rw[d4 j x ad,kV,HP] at this;simp only[Option.getD_some,Et,Bool.not_true,Bool.false_or,Bool.or_eq_true] at this;rcases this with h|h
           . exact .inl (bU _ _ h)
           . simp only[cc] at h
             obtain⟨⟨bI,ce⟩,dS⟩:=h;exact .inr ⟨Am.1 bI,Oh ce,(fun e=>by rw[e] at dS;cases dS)⟩
     . cases h
end
end Go.aL
namespace Go.aL
open Go.RowKit (Below)
section
variable{P:Program}{w0 w:World}{Γ0 Γ:Env}{M:Mem}{s:aI}{a:Act}{n:Nat}
def Zm(w0:World)(Γ0:Env)(n:Nat)(Q:Exit->aI->Mem->Prop):Exit->Act->World->Prop:=fun e a w=>∃Γ s M,cF w0 Γ0 n w Γ s M a/\Q e s M
theorem Ext.len{w':World}{Γ':Env}(h:Ext w Γ w' Γ'):Γ.c0.length<=Γ'.c0.length:=by
 rcases mR Γ'.c0.length Γ.c0.length with bx|pl
 . obtain⟨l',aa,_⟩:=h.c0 Γ'.c0.length (Γ.c0[Γ'.c0.length]) (by simp[bx])
   simp at aa
 . exact pl
theorem AZ(s:aI):∀live:List Nat,ln live (dr s live)=g7 s live
 |[]=>rfl
 |t::ip=>by simp[ln,dr,g7,AZ s ip]
theorem cF.pop(h:cF w0 Γ0 n w Γ s M a){len:Nat}(a8:Γ0.c0.length<=len){live:List Nat}(ay:hT len (dr s live) M=true):cF w0 Γ0 n w (Γ.jl w len) (ln live (dr s live)) (M.take len) a:=by
 simp only[hT,cc,decide_eq_true_eq] at ay;obtain⟨⟨ag,hu⟩,hm⟩:=ay;refine⟨h.gd.pop ag hm,fun t=>?_,h.size,h.defers,Ext.pop h.gd h.ext a8⟩;rw[AZ];have:∀l:List Nat,cT len (dr s l)=true->bq w (Γ.jl w len) (aX (g7 s l) t) (a.tmps.getD t Go.undef):=by
  intro l;induction l with
  |nil=>intro _;exact .undef _
  |cons u l bu=>
   intro hu;simp only[dr,cT,cc] at hu;simp only[g7,aX];by_cases U8:u=t
   . subst U8;simpa using tG (h.gV u) hu.1
   . have:(u==t)=false:=by simpa using U8
     simpa[this] using bu hu.2
 exact this live hu
theorem aQM{Q:Exit->Act->World->Prop}{c dB:Code}(l:Nat)(b6:Nat->Act->World->Prop)(aD:findLabel c l=some dB)
 (first:c.wp P (Exit.jump l (fun a w=>∃n,b6 n a w) Q) a w)
 (aNf:∀n a w,b6 n a w->dB.wp P (Exit.jump l (fun dt w'=>∃m,m<n/\b6 m dt w') Q) a w):(Code.scope c).wp P Q a w:=by
 refine wp_scope_jumps l (fun a w=>∃n,b6 n a w) (fun a w=>leastOf (fun n=>b6 n a w)) aD first ?_
 intro a w xo;refine wp_mono (aNf _ a w (leastOf_spec xo).1) ?_;intro e dt w' aG;cases e with
 |goto l'=>
  obtain⟨rfl,m,bx,CU⟩:=aG;exact⟨rfl,⟨m,CU⟩,Nat.lt_of_le_of_lt ((leastOf_spec ⟨m,CU⟩).2 m CU) bx⟩
 |normal=>exact aG
 |exit id=>exact aG
 |ret=>exact aG
 |panic jU=>exact aG
 |outgrown=>exact aG
theorem aQI{h:Hints}:∀(k:Nat)(c:Code)(ac:a6),pO P n h k c=some ac->∀(Q:Exit->aI->Mem->Prop)(s:aI)(M:Mem)(a:Act)(w:World)(Γ:Env),cF w0 Γ0 n w Γ s M a->dn P ac Q s M->c.wp P (Zm w0 Γ0 n Q) a w:=by
 intro k;induction k with
 |zero=>intro c ac an;simp[pO] at an
 |succ k bu=>
  intro c ac an Q s M a w Γ bl fk;have Nh:Γ0.c0.length<=M.length:=by rw[<-bl.gd.len];exact bl.ext.len
  cases c<;>simp only[pO,reduceCtorEq] at an
  case skip=>
   simp only[aW] at an;subst an;exact wp_skip ⟨Γ,s,M,bl,fk⟩
  case region id aF zk=>
   split at an
   . rename_i os xH
     split at an
     . rename_i C9
       split at an
       . rename_i hm
         split at an
         . rename_i dR HZ
           have UU:JX aF os=some dR:=by
            cases e:(nG (look h.oD id) 9999||nG (look h.oD id) 9998) with
            |true=>rw[e] at HZ;cases HZ
            |false=>rw[e] at HZ;exact HZ
           simp only[aW] at an;subst an;rw[show zk=true from C9];exact aMA (w0:=w0) (Γ0:=Γ0) (n:=n) (K:=fun aO ah=>Q .normal (g7 aO (look h.live id)) ah) hm xH UU bl fk (fun aO ah dt w' Γ' ct i3=>⟨Γ',_,ah,ct.norm _,i3⟩)
         . split at an
           . simp only[dK] at an
             obtain⟨⟨c,z,bk,bL⟩,ad,rfl⟩:=an;rw[show zk=true from C9];obtain⟨aS,d,cV⟩:=aMz ad;exact aLm (w0:=w0) (Γ0:=Γ0) (n:=n) (K:=fun aO ah=>Q .normal (g7 aO (look h.live id)) ah) hm xH cV bl fk (fun aO ah dt w' Γ' ct i3=>⟨Γ',_,ah,ct.norm _,i3⟩)
           simp only[dK] at an;obtain⟨x,ad,rfl⟩:=an;rw[show zk=true from C9];exact aFb (w0:=w0) (Γ0:=Γ0) (n:=n) (K:=fun aO ah=>Q .normal (g7 aO (look h.live id)) ah) hm xH ad bl fk (fun aO ah dt w' Γ' ct i3=>⟨Γ',_,ah,ct.norm _,i3⟩)
       . cases an
     . rename_i C9
       simp only[aW] at an;subst an;have aw:zk=false:=by simpa using C9
       subst aw;refine wp_region ?_;have e:c5 aF.size=List.range' 0 aF.toList.length:=by simp[List.range_eq_range']
       rw[e];exact Ym (w0:=w0) (Γ0:=Γ0) (n:=n) (mu:=look h.oD id) (K:=fun aO ah=>Q .normal (g7 aO (look h.live id)) ah) (fun aO ah dt w' Γ' ct i3=>⟨Γ',_,ah,ct.norm _,i3⟩) aF.toList 0 os s M a w Γ (by simp) xH bl fk
   . cases an
  case seq x y=>
   obtain⟨tr,za,ad,aE,rfl⟩:=hD an;refine wp_seq (wp_mono (bu x tr ad (yw (dn P za) Q) s M a w Γ bl fk) ?_);rintro e dt w' ⟨Γ',aO,ah,ct,aG⟩;cases e with
   |normal=>exact bu y za aE Q aO ah dt w' Γ' ct aG
   |exit id=>exact⟨Γ',aO,ah,ct,aG⟩
   |goto l=>exact⟨Γ',aO,ah,ct,aG⟩
   |ret=>exact⟨Γ',aO,ah,ct,aG⟩
   |panic jU=>exact⟨Γ',aO,ah,ct,aG⟩
   |outgrown=>exact⟨Γ',aO,ah,ct,aG⟩
  case cond c x y=>
   split at an
   . rename_i cK tr za ar ad aE
     simp only[aW] at an;subst an;simp only[dn] at fk;have rC:=d5 bl.gV ar;split at fk
     . rename_i t aV
       have:=qP rC aV;refine wp_cond this ?_;cases t with
       |true=>exact bu x tr ad Q s M a w Γ bl fk
       |false=>exact bu y za aE Q s M a w Γ bl fk
     . exact fk.elim
   . cases an
  case block id x=>
   simp only[dK] at an;obtain⟨tr,ad,rfl⟩:=an;refine wp_block (wp_mono (bu x tr ad (p5 id Q) s M a w Γ bl fk) ?_);rintro e dt w' ⟨Γ',aO,ah,ct,aG⟩;cases e with
   |exit nF=>
    simp only[Exit.inBlock,p5] at aG⊢;by_cases ba:nF=id
    . subst ba
      simp only[beq_self_eq_true,cond_true] at aG;rw[if_pos rfl];exact⟨Γ',aO,ah,ct,aG⟩
    . have:(nF==id)=false:=by simpa using ba
      simp only[this,cond_false] at aG;rw[if_neg ba];exact⟨Γ',aO,ah,ct,aG⟩
   |normal=>exact⟨Γ',aO,ah,ct,aG⟩
   |goto l=>exact⟨Γ',aO,ah,ct,aG⟩
   |ret=>exact⟨Γ',aO,ah,ct,aG⟩
   |panic jU=>exact⟨Γ',aO,ah,ct,aG⟩
   |outgrown=>exact⟨Γ',aO,ah,ct,aG⟩
  case loop x=>
   simp only[dK] at an;obtain⟨tr,ad,rfl⟩:=an;obtain⟨dA,yk,a8,aJZ⟩:=fk;refine wp_loop_ghost (fun m a w=>∃Γ vs cE,dA m vs cE/\cF w0 Γ0 n w Γ (ln (look h.loops (pd x)) vs) cE a) yk ⟨Γ,_,M,a8,by rw[AZ];exact bl.norm _⟩ ?_;rintro m a w ⟨oR,vs,cE,lI,mc⟩;refine wp_mono (bu x tr ad _ _ cE a w oR mc (aJZ m vs cE lI)) ?_;rintro e dt w' ⟨Γ',aO,ah,ct,aG⟩;cases e with
   |normal=>
    rcases aG with⟨e6,bx,MB⟩|⟨vB,e6,bx,MB⟩
    . exact⟨e6,bx,Γ',_,ah,MB,by rw[AZ];exact ct.norm _⟩
    . exact⟨e6,bx,_,_,_,MB,ct.pop Nh vB⟩
   |exit id=>exact⟨Γ',aO,ah,ct,aG⟩
   |goto l=>exact⟨Γ',aO,ah,ct,aG⟩
   |ret=>exact⟨Γ',aO,ah,ct,aG⟩
   |panic jU=>exact⟨Γ',aO,ah,ct,aG⟩
   |outgrown=>exact⟨Γ',aO,ah,ct,aG⟩
  case scope x=>
   split at an
   . rename_i l ag
     split at an
     . rename_i dB UX
       obtain⟨tr,za,ad,aE,rfl⟩:=hD an;obtain⟨b6,M4,aJK⟩:=fk;refine aQM l (fun m a w=>∃Γ vs cE,b6 m vs cE/\cF w0 Γ0 n w Γ (ln (look h.loops (pd dB)) vs) cE a) UX (wp_mono (bu x tr ad _ s M a w Γ bl M4) ?_) ?_
       . rintro e dt w' ⟨Γ',aO,ah,ct,aG⟩
         cases e with
         |goto l'=>
          obtain⟨rfl,m,xo⟩:=aG;exact⟨rfl,m,Γ',_,ah,xo,by rw[AZ];exact ct.norm _⟩
         |normal=>exact⟨Γ',aO,ah,ct,aG⟩
         |exit id=>exact⟨Γ',aO,ah,ct,aG⟩
         |ret=>exact⟨Γ',aO,ah,ct,aG⟩
         |panic jU=>exact⟨Γ',aO,ah,ct,aG⟩
         |outgrown=>exact⟨Γ',aO,ah,ct,aG⟩
       . rintro m a w ⟨oR,vs,cE,xo,mc⟩
         refine wp_mono (bu dB za aE _ _ cE a w oR mc (aJK m vs cE xo)) ?_;rintro e dt w' ⟨Γ',aO,ah,ct,aG⟩;cases e with
         |goto l'=>
          obtain⟨rfl,e6,bx,CU⟩:=aG;exact⟨rfl,e6,bx,Γ',_,ah,CU,by rw[AZ];exact ct.norm _⟩
         |normal=>exact⟨Γ',aO,ah,ct,aG⟩
         |exit id=>exact⟨Γ',aO,ah,ct,aG⟩
         |ret=>exact⟨Γ',aO,ah,ct,aG⟩
         |panic jU=>exact⟨Γ',aO,ah,ct,aG⟩
         |outgrown=>exact⟨Γ',aO,ah,ct,aG⟩
     . cases an
   . cases an
  case exit id=>
   simp only[aW] at an;subst an;exact wp_exit ⟨Γ,s,M,bl,fk⟩
  case label l=>
   simp only[aW] at an;subst an;exact wp_label ⟨Γ,s,M,bl,fk⟩
  case goto l=>
   simp only[aW] at an;subst an;exact wp_goto ⟨Γ,s,M,bl,fk⟩
  case ret=>
   simp only[aW] at an;subst an;exact wp_ret ⟨Γ,s,M,bl,fk⟩
def gK(tmps:Array Value)(r:ResultVar):Sem Value:=
 match r with
 |.tmp t=>pure (tmps.getD t Go.undef)
 |.cell c t=>asAddr (tmps.getD c Go.undef)>>=loadVar t
theorem aOf{r:ResultVar}{Bd:mn}{rs:List ResultVar}{q8:List mn}(h:oI P n (r::rs)=some (Bd::q8))(bl:cF w0 Γ0 n w Γ s M a){v:V}(aq:EJ s M Bd=some v):
 ∃bn,bq w Γ v bn/\(gK a.tmps r).run P w=.ok bn w:=by
 cases r with
 |tmp t=>
  simp only[oI,dK,List.cons.injEq] at h;obtain⟨_,_,rfl,rfl⟩:=h;simp only[EJ,aW] at aq;subst aq;exact⟨_,bl.gV t,rfl⟩
 |cell c t=>
  simp only[oI] at h;split at h
  . rename_i m bZ bg hm a9 has
    simp only[aW,List.cons.injEq] at h;obtain⟨rfl,rfl⟩:=h;simp only[EJ] at aq;obtain⟨b,off,o',cells,ar,iy,ag⟩:=VF bl.gd (bl.gV c) aq;have hs:=VE iy ag;cases bZ with
    |true=>
     obtain⟨xs,bn,rfl,hlen,dO,an⟩:=hs;refine⟨.agg ((c5 m).map bn).toArray,.agg xs _ (by simp[hlen]) (fun j x ad=>?_),?_⟩
     . have ap:j<m:=by rw[<-hlen];exact(bo.1 ad).1
       have:=an j x ad;simpa[iq,ap] using this
     . have cw:=run_loadCells (P:=P) w ⟨b,off+o',none⟩ m bn (fun j ap=>by rw[Addr.ly];exact dO j ap)
       simp[gK,ar,asAddr,loadVar,vW a9,g6 hm,cw]
    |false=>
     obtain⟨bn,dO,an⟩:=hs;exact⟨bn,an,by simp[gK,ar,asAddr,loadVar,vW a9,dO]⟩
  . cases h
theorem WQ(bl:cF w0 Γ0 n w Γ s M a):∀(rs:List ResultVar)(q8:List mn)(vs:List V),oI P n rs=some q8->yu s M q8=some vs->
 ∃sy:List Value,ek w Γ vs sy.toArray/\(rs.mapM (gK a.tmps)).run P w=.ok sy w
 |[],q8,vs,h,aq=>by
  simp only[oI,aW] at h;subst h;simp only[yu,aW] at aq;subst aq;exact⟨[],⟨rfl,fun j x ad=>by simp at ad⟩,by simp⟩
 |r::rs,q8,vs,h,aq=>by
  have aH0:∃Bd Fr,q8=Bd::Fr/\oI P n rs=some Fr:=by
   cases r with
   |tmp t=>
    simp only[oI,dK] at h;obtain⟨bg,aa,rfl⟩:=h;exact⟨_,_,rfl,aa⟩
   |cell c t=>
    simp only[oI] at h;split at h
    . rename_i aa af az
      simp only[aW] at h;exact⟨_,_,h.symm,az⟩
    . cases h
  obtain⟨Bd,Fr,rfl,mG⟩:=aH0;simp only[yu] at aq;split at aq
  . rename_i v Pq xQ NJ
    simp only[aW] at aq;subst aq;obtain⟨bn,aa,af⟩:=aOf h bl xQ;obtain⟨sy,az,bh⟩:=WQ bl rs Fr Pq mG NJ;refine⟨bn::sy,⟨by simp[az.1.symm],fun j x ad=>?_⟩,?_⟩
    . cases j with
      |zero=>simp at ad;subst ad;simpa using aa
      |succ j=>
       have:=az.2 j x (by simpa using ad);simpa[iq] using this
    . rw[List.mapM_cons]
      simp only[Sem.run_bind,af,Result.andThen_ok,bh,Sem.run_pure]
  . cases aq
theorem WS(bl:cF w0 Γ0 n w Γ s M a){fn:Func}{q8:List mn}(h:oI P n fn.results.toList=some q8){v:V}(aq:pN s M q8=some v):∃bn,bq w Γ v bn/\(results fn a.tmps).run P w=.ok bn w:=by
 have key:∃vs,yu s M q8=some vs/\((∃x,vs=[x]/\v=x)∨((∀x,vs≠[x])/\v=.tuple vs)):=by
  unfold pN at aq;split at aq
  . rename_i x ad
    simp only[aW] at aq;exact⟨_,ad,.inl ⟨x,rfl,aq.symm⟩⟩
  . rename_i vs cD ad
    simp only[aW] at aq;exact⟨vs,ad,.inr ⟨fun x e=>cD x e,aq.symm⟩⟩
  . cases aq
 obtain⟨vs,DD,aHU⟩:=key;obtain⟨sy,aa,af⟩:=WQ bl _ _ _ h DD;have hm:(fn.results.mapM (gK a.tmps)).run P w=.ok sy.toArray w:=by
  rw[Array.mapM_eq_mapM_toList];simp[af]
 have ag:sy.length=vs.length:=by simpa using aa.1
 have fs:results fn a.tmps=(do
  let vs<-fn.results.mapM (gK a.tmps)
  pure (if h:vs.size=1 then vs[0] else .tuple vs)):=by
  unfold results
  congr 2
 rw[fs];rcases aHU with⟨x,rfl,rfl⟩|⟨cD,rfl⟩
 . obtain⟨c,rfl⟩:=List.length_eq_one_iff.1 (show sy.length=1 from ag)
   refine⟨c,by simpa using aa.2 0 _ rfl,?_⟩;rw[Sem.run_bind,hm];simp
 . refine⟨.tuple sy.toArray,.tuple _ _ aa.1 aa.2,?_⟩
   rw[Sem.run_bind,hm];have:¬(sy.toArray.size=1):=by
    intro ak;simp only[List.size_toArray] at ak;rw[ag] at ak;obtain⟨x,rfl⟩:=List.length_eq_one_iff.1 ak;exact cD x rfl
   simp only[Result.andThen_ok,Sem.run_pure,this,dite_false]
theorem Xc:∀(args:List V)(i t:Nat),aX (r8 args i) t=if i<=t then(args[t -i]?).getD .undef else .undef
 |[],i,t=>by simp[r8,aX]
 |x::xs,i,t=>by
  simp only[r8,aX];by_cases h:i=t
  . subst h;simp
  . have:(i==t)=false:=by simpa using h
    rw[this,cond_false,Xc xs (i+1) t];by_cases af:i<=t
    . rw[if_pos (by omega),if_pos af,show t -i=(t -(i+1))+1 by omega]
      simp
    . rw[if_neg (by omega),if_neg af]
theorem aGY{f:Nat}{h:Hints}{fn:bs}(aD:bB P h f=some fn):vd P f=true/\∃F c,P.funcs[f]? =some F/\F.body=some c/\pO P F.ntmps h 200 c=some fn.body/\oI P F.ntmps F.results.toList=some fn.results:=by
 unfold bB at aD;split at aD
 . rename_i F bN
   split at aD
   . rename_i c ar
     cases aK:(F.name != "runtime.NumGoroutine") with
     |false=>simp[aK] at aD
     |true=>
      simp only[aK,cond_true] at aD;split at aD
      . rename_i b rs aj mG
        simp only[aW] at aD;subst aD;exact⟨by simp[vd,bN,ar,aK],F,c,bN,ar,aj,mG⟩
      . cases aD
   . cases aD
 . cases aD
theorem aEa{F:Func}{args:List V}{jT:Array Value}(aB:Good w Γ M)(a9:ek w Γ args jT)(hle:args.length<=F.ntmps):cF w Γ F.ntmps w Γ (r8 args 0) M {tmps:=jT++Array.replicate (F.ntmps -jT.size) Go.undef,defers:=[]}:=by
 refine⟨aB,fun t=>?_,by simp[a9.1];omega,rfl,Ext.refl _ _⟩;rw[Xc,if_pos (fR _),Nat.sub_zero];by_cases aV:t<args.length
 . rw[gg aV]
   have:=a9.2 t _ (gg aV);have H4:t<jT.size:=by rw[a9.1];exact aV
   simpa[iq,Array.getElem?_append,H4] using this
 . rw[lX (by omega)]
   exact .undef _
theorem P8{f:Nat}{h:Hints}{fn:bs}(aD:bB P h f=some fn){args:List V}(hle:args.length<=fn.ntmps){R:V->Mem->Prop}{l1:Option V->Mem->Prop}(fk:dn P fn.body (o8 fn.results l1) (r8 args 0) M)
 (hq:∀(F:Func)(w0:World)(Γ0:Env)(s:aI)(ah:Mem)(a:Act)(w:World)(Γ:Env),Γ0.c0.length=M.length->oI P F.ntmps F.results.toList=some fn.results->cF w0 Γ0 F.ntmps w Γ s ah a->l1 (pN s ah fn.results) ah->
   ∃v bn Γ' mr,(results F a.tmps).run P w=.ok bn w/\R v mr/\bq w Γ' v bn/\Good w Γ' mr/\Ext w0 Γ0 w Γ'):b9 P f args M R:=by
 obtain⟨Na,F,c,bN,ar,aHO,fs⟩:=aGY aD;have aJD:fn.ntmps=F.ntmps:=by
  unfold bB at aD;simp only[bN,ar] at aD;cases aK:(F.name != "runtime.NumGoroutine") with
  |true=>
   simp only[aK,cond_true] at aD;split at aD
   . simp only[aW] at aD;rw[<-aD]
   . cases aD
  |false=>simp[aK] at aD
 refine⟨Na,fun w Γ jT aB a9=>calls_of_wp bN ar (wp_mono (aQI 200 c fn.body aHO _ _ M _ w Γ (aEa aB a9 (by rw[<-aJD];exact hle)) fk) ?_)⟩;rintro e dt w' ⟨Γ',aO,ah,bl,aG⟩;have fin:l1 (pN aO ah fn.results) ah->dt.defers=[]/\∃v,(results F dt.tmps).run P w'=.ok v w'/\∃dT bn EX mr,Ending.returned v=.returned bn/\R dT mr/\bq w' EX dT bn/\Good w' EX mr/\Ext w Γ w' EX:=fun an=>by
  obtain⟨v,bn,EX,mr,aa,af,az,bh,bC⟩:=hq F w Γ aO ah dt w' Γ' aB.len fs bl an;exact⟨bl.defers,bn,aa,v,bn,EX,mr,rfl,af,az,bh,bC⟩
 cases e with
 |normal=>exact fin aG
 |ret=>exact fin aG
 |exit id=>exact aG.elim
 |goto l=>exact aG.elim
 |panic jU=>exact aG.elim
 |outgrown=>exact aG.elim
theorem hl{f:Nat}{h:Hints}{fn:bs}(aD:bB P h f=some fn){args:List V}(hle:args.length<=fn.ntmps){R:V->Mem->Prop}(fk:hg P fn args M R):b9 P f args M R:=by
 refine P8 aD hle fk ?_;intro F w0 Γ0 s ah a w Γ ag fs bl an;unfold qz at an;split at an
 . rename_i v aq
   obtain⟨bn,aa,af⟩:=WS bl fs aq;exact⟨v,bn,Γ,ah,af,an,aa,bl.gd,bl.ext⟩
 . exact an.elim
theorem bP{f:Nat}{h:Hints}{fn:bs}(aD:bB P h f=some fn){args:List V}(hle:args.length<=fn.ntmps){R:V->Mem->Prop}(fk:Yn P fn args M R):b9 P f args M R:=by
 refine P8 aD hle fk ?_;intro F w0 Γ0 s ah a w Γ ag fs bl an;unfold Kg at an;split at an
 . rename_i v aq
   unfold kZ at an;split at an
   . rename_i dT m1
     obtain⟨ar,fI⟩:=an;simp only[cc,decide_eq_true_eq] at ar;obtain⟨bn,aa,af⟩:=WS bl fs aq;exact⟨dT,bn,Γ.jl w M.length,_,af,fI,TJ bl.gd 20 aa m1,bl.gd.pop ar.1.2 ar.2,Ext.pop bl.gd bl.ext (by omega)⟩
   . exact an.elim
 . exact an.elim
end
end Go.aL
namespace Go.aL
open Go.RowKit (Below)
open Go.ChangeShapes Go.WideShapes
inductive gC where
 |bool
 |int (k:IntKind)
 |str
 |slice (row:List gC)
 deriving Inhabited
inductive mo:gC->V->Prop
 |bool (b:Bool):mo .bool (.bool b)
 |int (k:IntKind) (n:Int) (h:(Lit.int k n).wf=true):mo (.int k) (.int k n)
 |str (s:List UInt8) (h:s.length<=maxLen):mo .str (.str s)
 |slice (row:List gC) (rows:List (List V)) (c:c4) (ar:c=.nil/\rows=[]∨c=.any) (ag:rows.length<=maxLen)
   (a_:∀(i:Nat)(r:List V),rows[i]? =some r->r.length=row.length)
   (h:∀(i:Nat)(r:List V)(j:Nat)(x:V)(e9:gC),rows[i]? =some r->r[j]? =some x->row[j]? =some e9->mo e9 x):
   mo (.slice row) (.slice rows c)
theorem mo.pure{e9:gC}{v:V}(h:mo e9 v):v.ku=true:=by cases h<;>rfl
def mV(row:List gC)(vs:List V):Prop:=vs.length=row.length/\∀(j:Nat)(x:V)(e9:gC),vs[j]? =some x->row[j]? =some e9->mo e9 x
def BE(P:Program)(CT:TypeId->Option (List gC)):List Field->Nat->Option (List gC)
 |[],_=>some []
 |f::bR,off=>
  match CT f.type with
  |some r=>
   bif f.offset==off&&r.length==P.cellsOf f.type then
    match BE P CT bR (off+r.length) with
    |some q=>some (r++q)
    |none=>none
   else none
  |none=>none
def ef(P:Program):Nat->TypeId->Option (List gC)
 |0,_=>none
 |n+1,t=>
  match P.underlying t with
  |some .bool=>some [.bool]
  |some (.int k)=>some [.int k]
  |some .string=>some [.str]
  |some (.slice e)=>
   match ef P n e with
   |some r=>bif r.length==P.cellsOf e&&!r.isEmpty then some [.slice r] else none
   |none=>none
  |some (.struct bR)=>
   match BE P (ef P n) bR.toList 0 with
   |some r=>bif r.length==P.cellsOf t then some r else none
   |none=>none
  |_=>none
def PG(w:World)(Γ:Env)(e9:gC)(c:Value):Prop:=∃v,mo e9 v/\bq w Γ v c
def sn(w:World)(Γ:Env)(iX:List gC)(cs:List Value):Prop:=
 cs.length=iX.length/\∀(j:Nat)(e9:gC)(c:Value),iX[j]? =some e9->cs[j]? =some c->PG w Γ e9 c
theorem sn.pick{w:World}{Γ:Env}{iX:List gC}{cs:List Value}(h:sn w Γ iX cs):∃vs,mV iX vs/\ek w Γ vs cs.toArray:=by
 obtain⟨ag,h⟩:=h;induction iX generalizing cs with
 |nil=>
  have:cs=[]:=List.length_eq_zero_iff.1 ag;subst this;exact⟨[],⟨rfl,fun j x e9 h=>by simp at h⟩,rfl,fun j x h=>by simp at h⟩
 |cons e9 iX bu=>
  cases cs with
  |nil=>simp at ag
  |cons c cs=>
   obtain⟨vs,⟨cZ,aa⟩,e4,af⟩:=bu (cs:=cs) (by simpa using ag) (fun j e9 c az bh=>h (j+1) e9 c (by simpa using az) (by simpa using bh));obtain⟨v,aq,an⟩:=h 0 e9 c rfl rfl;refine⟨v::vs,⟨by simp[cZ],fun j x RC ad qh=>?_⟩,by simpa using e4,fun j x ad=>?_⟩
   . cases j with
     |zero=>simp at ad qh;subst ad;subst qh;exact aq
     |succ j=>exact aa j x RC (by simpa using ad) (by simpa using qh)
   . cases j with
     |zero=>simp at ad;subst ad;simpa[iq] using an
     |succ j=>
      have:=af j x (by simpa using ad);simpa[iq] using this
theorem sn.append{w:World}{Γ:Env}{eX g1:List gC}{s1 dq:List Value}(aa:sn w Γ eX s1)(af:sn w Γ g1 dq):sn w Γ (eX++g1) (s1++dq):=by
 refine⟨by simp[aa.1,af.1],fun j e9 c a b=>?_⟩;by_cases ap:j<eX.length
 . rw[gp ap] at a
   rw[gp (by rw[aa.1];exact ap)] at b;exact aa.2 j e9 c a b
 . rw[j_ (by omega)] at a
   rw[j_ (by rw[aa.1];omega),aa.1] at b;exact af.2 _ e9 c a b
section
variable{H:Type}{enc:TypeId×Value->H}{P:Program}{w:World}{Γ:Env}
theorem Sp{CT:TypeId->Option (List gC)}{cs:List Value}
 :∀(bR:List Field)(off:Nat)(iX:List gC),BE P CT bR off=some iX->off+iX.length<=cs.length->
  (∀(i:Nat)(f:Field)(r:List gC),bR[i]? =some f->CT f.type=some r->r.length=P.cellsOf f.type->(cs.drop f.offset).take (P.cellsOf f.type)=(cs.drop f.offset).take r.length->sn w Γ r ((cs.drop f.offset).take r.length))->
  sn w Γ iX ((cs.drop off).take iX.length)
 |[],off,iX,h,_,_=>by
  simp only[BE,aW] at h;subst h;exact⟨by simp,fun j e9 c h=>by simp at h⟩
 |f::bR,off,iX,h,hle,aD=>by
  unfold BE at h;split at h
  . rename_i r an
    cases aw:(f.offset==off&&r.length==P.cellsOf f.type) with
    |false=>simp[aw] at h
    |true=>
     simp only[aw,cond_true] at h;simp only[cc,beq_iff_eq] at aw;obtain⟨rfl,aw⟩:=aw;split at h
     . rename_i q aG
       simp only[aW] at h;subst h;have aa:=aD 0 f r rfl an aw (by rw[aw]);have af:=Sp bR (f.offset+r.length) q aG (by simp at hle;omega) (fun i aEB fO a b c d=>aD (i+1) aEB fO (by simpa using a) b c d);have:=aa.append af;have e:(cs.drop f.offset).take r.length++(cs.drop (f.offset+r.length)).take q.length=(cs.drop f.offset).take (r++q).length:=by
        rw[dz,List.take_add,List.drop_drop]
       rw[e] at this;exact this
     . cases h
  . cases h
theorem KH(dj:∀b o v,w.cell? ⟨b,o,none⟩=some v->Γ.S b o):∀(n:Nat)(t:TypeId)(iX:List gC)(fuel:Nat)(cs:List Value)(x:DataW H×List MemPlace),
 ef P n t=some iX->DataW.trod enc P w 0 (fun _=>true) true fuel t cs=some x->sn w Γ iX cs
 |0,t,iX,fuel,cs,x,h,_=>by simp[ef] at h
 |n+1,t,iX,fuel,cs,x,h,ad=>by
  have one:∀{e9:gC}{c:Value},PG w Γ e9 c->sn w Γ [e9] [c]:=fun ar=>⟨rfl,fun j RC cK a b=>by
   cases j with
   |zero=>simp at a b;subst a;subst b;exact ar
   |succ j=>simp at a⟩;unfold ef at h;split at h
  . rename_i hu
    simp only[aW] at h;subst h;obtain⟨b,rfl,_⟩:=DataW.trod_bool hu ad;exact one ⟨_,.bool b,.bool b⟩
  . rename_i k hu
    simp only[aW] at h;subst h;obtain⟨q,rfl,_,hw⟩:=DataW.trod_int hu ad;exact one ⟨_,.int k q hw,.int k q⟩
  . rename_i hu
    simp only[aW] at h;subst h;obtain⟨s,rfl,_,ag⟩:=DataW.trod_string hu ad;refine one ⟨.str s.data.toList,.str _ (by rw[Array.length_toList];exact ag),?_⟩;have:=bq.str (w:=w) (Γ:=Γ) s.data.toList;rw[Array.toArray_toList] at this;exact this
  . rename_i e hu
    split at h
    . rename_i row iy
      cases aw:(row.length==P.cellsOf e&&!row.isEmpty) with
      |false=>simp[aw] at h
      |true=>
       simp only[aw,cond_true,aW] at h;subst h;simp only[cc,beq_iff_eq,lV,List.isEmpty_eq_false_iff] at aw;obtain⟨a_,cD⟩:=aw;have pt:0<row.length:=List.length_pos_iff.2 cD;rcases DataW.trod_slice hu ad with⟨rfl,_⟩|⟨a,len,cap,aD7,dB,m,_,rfl,_,_,hle,xD,hlen,HN,NF,_⟩
       . exact one ⟨.slice [] .nil,.slice row [] .nil (.inl ⟨rfl,rfl⟩) (fR _) (fun i r h=>by simp at h) (fun i r j x e9 h=>by simp at h),.iO _ (.inl rfl)⟩
       . by_cases C3:cap=0
         . subst C3
           have i9:len=0:=by omega
           subst i9;exact one ⟨.slice [] .any,.slice row [] .any (.inr rfl) (fR _) (fun i r h=>by simp at h) (fun i r j x e9 h=>by simp at h),.lR _ (by simp) _⟩
         . have Um:∀i,i<len->∃bK y,w.cells? 0 (a.add (i*P.cellsOf e)) (P.cellsOf e)=some bK/\DataW.trod enc P w 0 (fun _=>true) true m e bK=some y:=fun i hi=>by
            have:=HN i hi;rw[gg (by omega)] at this;obtain⟨bK,aa,af⟩:=Option.bind_eq_some_iff.1 this;exact⟨bK,_,aa,af⟩
           have U6:a.spot=none:=by
            have:∃bK,w.cells? 0 a (P.cellsOf e)=some bK:=by
             have fY:a.add (0*P.cellsOf e)=a:=by rw[Nat.zero_mul,Addr.add,if_pos rfl]
             by_cases i9:0<len
             . obtain⟨bK,_,aa,_⟩:=Um 0 i9
               exact⟨bK,by rw[<-aa,fY]⟩
             . obtain⟨aa,af⟩:=NF rfl
               have:=af 0 (by omega);rw[gg (by omega)] at this;obtain⟨bK,az,_⟩:=Option.bind_eq_some_iff.1 this;have i9:len=0:=by omega
               subst i9;exact⟨bK,by rw[<-az,iT,fY]⟩
            obtain⟨bK,aa⟩:=this;obtain⟨_,ag,ar⟩:=World.cells?_some aa;have:=ar 0 (by omega);rw[gg (by omega),Addr.add,if_pos rfl] at this;exact World.cell?_spot this
           obtain⟨b,off,spot⟩:=a;simp only at U6;subst U6;have dO:∀i j,∃v,i<len->j<row.length->∃c,w.cell? ⟨b,off+(i*row.length+j),none⟩=some c/\(∀e9,row[j]? =some e9->mo e9 v)/\bq w Γ v c:=fun i j=>by
            by_cases hi:i<len
            . by_cases ap:j<row.length
              . obtain⟨bK,y,aa,af⟩:=Um i hi
                obtain⟨_,ag,ar⟩:=World.cells?_some aa;have an:=KH dj n e row m bK y iy af;have tV:j<bK.length:=by rw[an.1];exact ap
                obtain⟨v,aq,f0⟩:=an.2 j row[j] bK[j] (gg ap) (gg tV);refine⟨v,fun _ _=>⟨bK[j],?_,fun e9 qh=>?_,f0⟩⟩
                . have:=ar j (by omega)
                  rw[gg tV] at this;rw[<-this,<-a_,Addr.ly,Addr.ly,kX]
                . rw[gg ap] at qh
                  simp only[aW] at qh;rw[<-qh];exact aq
              . exact⟨.undef,fun _ h=>absurd h ap⟩
            . exact⟨.undef,fun h=>absurd h hi⟩
           obtain⟨f,aD⟩:=Classical.axiomOfChoice (fun(Vj:Nat×Nat)=>dO Vj.1 Vj.2);let rows:=(c5 len).map fun i=>(c5 row.length).map fun j=>f (i,j)
           have sS:rows.length=len:=by simp[rows]
           have gx:∀(i:Nat)(r:List V),rows[i]? =some r->i<len/\r=(c5 row.length).map fun j=>f (i,j):=fun i r an=>by
            have hi:i<len:=by rw[<-sS];exact(bo.1 an).1
            simp only[rows,gX,List.getElem?_range hi,lY,aW] at an;exact⟨hi,an.symm⟩
           have M_:∀(i:Nat)(r:List V)(j:Nat)(x:V),rows[i]? =some r->r[j]? =some x->i<len/\j<row.length/\x=f (i,j):=fun i r j x an ad=>by
            obtain⟨hi,rfl⟩:=gx i r an;have ap:j<row.length:=by simpa using(bo.1 ad).1
            simp only[gX,List.getElem?_range ap,lY,aW] at ad;exact⟨hi,ap,ad.symm⟩
           have Uv:∀(i:Nat)(r:List V)(j:Nat)(x:V)(e9:gC),rows[i]? =some r->r[j]? =some x->row[j]? =some e9->mo e9 x:=fun i r j x e9 an ad qh=>by
            obtain⟨hi,ap,rfl⟩:=M_ i r j x an ad;obtain⟨c,aa,af,az⟩:=aD (i,j) hi ap;exact af e9 qh
           refine one ⟨.slice rows .any,.slice row rows .any (.inr rfl) (by omega) (fun i r an=>?_) Uv,?_⟩
           . obtain⟨_,rfl⟩:=gx i r an
             simp
           . have:=bq.slice (w:=w) (Γ:=Γ) rows .any b off row.length cap (fun i j=>(w.cell? ⟨b,off+(i*row.length+j),none⟩).getD Go.undef) (by simp) (by simp) (by omega)
              (fun i r an=>by obtain⟨_,rfl⟩:=gx i r an;simp)
              (fun i j hi ap=>by
                obtain⟨c,aa,_⟩:=aD (i,j) (by omega) ap;exact dj _ _ _ aa)
              (fun i j hi ap=>by
                obtain⟨c,aa,_⟩:=aD (i,j) (by omega) ap;simp only at aa;rw[aa];rfl)
              (fun i r j x an ad=>by
                obtain⟨hi,ap,rfl⟩:=M_ i r j x an ad;exact(Uv i r j _ row[j] an ad (gg ap)).pure)
              (fun i r j x an ad=>by
                obtain⟨hi,ap,rfl⟩:=M_ i r j x an ad;obtain⟨c,aa,_,az⟩:=aD (i,j) hi ap;simp only at aa;rw[aa];exact az)
             rw[sS] at this;exact this
    . cases h
  . rename_i bR hu
    split at h
    . rename_i r an
      obtain⟨aw,rfl⟩:=fg h;have aw:r.length=P.cellsOf t:=by simpa using aw
      obtain⟨xs,m,_,_,ag,vJ,gx⟩:=DataW.trod_struct hu ad;have:=Sp (w:=w) (Γ:=Γ) (cs:=cs) bR.toList 0 r an (by omega) (fun i f W2 aD aB hlen _=>by
       have Uo:bR[i]? =some f:=by simpa using aD
       have hi:i<bR.size:=(lp.1 Uo).1;have aa:=gx i f Uo;rw[gg (by omega)] at aa;rw[<-hlen] at aa;exact KH dj n f.type W2 m _ _ aB aa);rw[lW,g_ (by omega)] at this;exact this
    . cases h
  . cases h
end
end Go.aL
namespace Go.aL
open Go.RowKit (Below)
open Go.ChangeShapes Go.WideShapes
inductive sm where
 |cell (e9:gC)
 |agg (row:List gC)
def K1:sm->V->Prop
 |.cell e9,v=>mo e9 v
 |.agg row,v=>∃vs,v=.agg vs/\mV row vs
def uT:List sm->List V->Prop
 |[],xs=>xs=[]
 |p::cX,xs=>∃x bH,xs=x::bH/\K1 p x/\uT cX bH
def Oo(P:Program)(t:TypeId):Option sm:=
 match P.underlying t with
 |some (.struct _)=>(ef P 12 t).map .agg
 |_=>
  match ef P 12 t with
  |some [e9]=>some (.cell e9)
  |_=>none
def AF(P:Program):List TypeId->Option (List sm)
 |[]=>some []
 |t::ip=>
  match Oo P t,AF P ip with
  |some p,some cX=>some (p::cX)
  |_,_=>none
section
variable{H:Type}{enc:TypeId×Value->H}{P:Program}{w:World}{Γ:Env}
theorem aE6{n:Nat}{t:TypeId}{e9:gC}(h:ef P n t=some [e9])(sP:∀bR,P.underlying t≠some (.struct bR)){r:Reach}{cz:Nat}{v:Value}(aq:Value.okWide P w r cz t v):v.cells=#[v]:=by
 cases n with
 |zero=>simp[ef] at h
 |succ n=>
  unfold ef at h;split at h
  . rename_i hu
    obtain⟨b,rfl⟩:=okWide_bool hu aq;rfl
  . rename_i k hu
    obtain⟨b,rfl⟩:=okWide_int hu aq;rfl
  . rename_i hu
    obtain⟨b,rfl⟩:=okWide_string hu aq;rfl
  . rename_i e hu
    obtain⟨a,b,c,rfl⟩:=okWide_slice hu aq;rfl
  . rename_i bR hu
    exact absurd hu (sP bR)
  . cases h
theorem ab3(dj:∀b o v,w.cell? ⟨b,o,none⟩=some v->Γ.S b o){r:Reach}{cz:Nat}{t:TypeId}{v:Value}{d:DataW H}{p:List MemPlace}{EC:sm}(pv:Oo P t=some EC)
 (aq:Value.okWide P w r cz t v)(h:DataW.Trod enc P w 0 (fun _=>true) true t v d p):∃x,K1 EC x/\bq w Γ x v:=by
 obtain⟨fuel,aD⟩:=h;unfold Oo at pv;split at pv
 . rename_i bR hu
   obtain⟨cs,rfl,ag⟩:=okWide_struct hu aq;obtain⟨row,iy,rfl⟩:=dK.1 pv;have:=KH (Γ:=Γ) dj _ _ _ _ _ _ iy aD;obtain⟨vs,aa,af,az⟩:=this.pick;refine⟨.agg vs,⟨vs,rfl,aa⟩,.agg vs cs ?_ ?_⟩
   . simpa[Value.cells] using af
   . simpa[Value.cells] using az
 . rename_i sP
   split at pv
   . rename_i e9 qh
     simp only[aW] at pv;subst pv;have ar:=aE6 qh sP aq;rw[ar] at aD;have:=KH (Γ:=Γ) dj _ _ _ _ _ _ qh aD;obtain⟨x,aa,af⟩:=this.2 0 e9 v rfl rfl;exact⟨x,aa,af⟩
   . cases pv
theorem QB(dj:∀b o v,w.cell? ⟨b,o,none⟩=some v->Γ.S b o){r:Reach}{cz:Nat}:∀(ip:List TypeId)(vs:List Value)(bK:List (DataW H))(p:List MemPlace)(pts:List sm),
 DataW.TrodAll enc P w 0 (fun _=>true) true ip vs bK p->(∀(j:Nat) t v,ip[j]? =some t->vs[j]? =some v->Value.okWide P w r cz t v)->AF P ip=some pts->
 ∃xs,uT pts xs/\xs.length=vs.length/\bK.length=pts.length/\∀(j:Nat)(x:V)(v:Value),xs[j]? =some x->vs[j]? =some v->bq w Γ x v
 |[],vs,bK,p,pts,h,_,ay=>by
  simp only[AF,aW] at ay;subst ay;obtain⟨rfl,rfl,rfl⟩:=trodAll_nil h;exact⟨[],rfl,rfl,rfl,fun j x v h=>by simp at h⟩
 |t::ip,vs,bK,p,pts,h,b7,ay=>by
  obtain⟨v,Pr,d,LY,a,b,rfl,rfl,rfl,aa,af⟩:=trodAll_cons h;simp only[AF] at ay;split at ay
  . rename_i EC cX pv fj
    simp only[aW] at ay;subst ay;obtain⟨x,ad,an⟩:=ab3 (Γ:=Γ) dj pv (b7 0 t v rfl rfl) aa;obtain⟨xs,vJ,ag,h0,mG⟩:=QB dj ip Pr LY b cX af (fun j hy dT aV aq=>b7 (j+1) hy dT (by simpa using aV) (by simpa using aq)) fj;refine⟨x::xs,⟨x,xs,rfl,ad,vJ⟩,by simp[ag],by simp[h0],fun j y dT aE aq=>?_⟩;cases j with
    |zero=>simp at aE aq;subst aE;subst aq;exact an
    |succ j=>exact mG j y dT (by simpa using aE) (by simpa using aq)
  . cases ay
theorem XW{W y9:World}(ag:laidOutB P=true)(aj:Below W.heap.size W y9):∀(ip:List TypeId)(vs:List Value)(bK:List (DataW H))(p:List MemPlace),
 (∀t∈ip,P.readableRec t=true/\t<P.types.size)->DataW.TrodAll enc P W 0 (fun _=>true) true ip vs bK p->(∀x∈p,x.block<W.heap.size)->
 DataW.TrodAll enc P y9 0 (fun b=>decide (b<W.heap.size)) true ip vs bK p
 |[],vs,bK,p,_,h,_=>by
  obtain⟨rfl,rfl,rfl⟩:=trodAll_nil h;exact trodAll_mk0
 |t::ip,vs,bK,p,an,h,ay=>by
  obtain⟨v,Pr,d,LY,a,b,rfl,rfl,rfl,aa,af⟩:=trodAll_cons h;have az:=an t (by simp);exact⟨a,b,Below.trod ag az.1 az.2 aa aj (fun x ad=>ay x (by simp[ad])),XW ag aj ip Pr LY b (fun hy aV=>an hy (by simp[aV])) af (fun x ad=>ay x (by simp[ad])),rfl⟩
end
def WK(P:Program)(ip:List TypeId):Bool:=ip.all fun t=>P.readableRec t&&decide (t<P.types.size)
def Env.start(w:World):Env:=⟨w.heap.size,[],fun b o=>∃v,w.cell? ⟨b,o,none⟩=some v⟩
theorem Good.start(w:World)(gk:∀w',Below w.heap.size w w'->GT w'):Good w (Env.start w) [] where
 len:=rfl
 eL i l B h:=by simp[Env.start] at h
 cz i l h:=by simp[Env.start] at h
 inj i j l l' h:=by simp[Env.start] at h
 jL b o h:=h
 base:=cH _
 jO:=gk
theorem aLo{H:Type}{enc:TypeId×Value->H}{C:Checked}{f:FuncId}{fn:Func}{s:ChangeSpec}{fresh MJ:Bool}{pts:List sm}{tb:TypeId}
 (N1:laidOutB C.prog=true)(H6:s.vars=[])(ak:∀bK:List (DataW H),bK.length=pts.length->s.fn H bK={results:=[.lit (.bool true)],args:=bK})
 (pv:AF C.prog fn.params.toList=some pts)(NA:WK C.prog fn.params.toList=true)(fs:fn.resultTypes=#[tb]) (NG:C.prog.underlying tb=some .bool)
 (Eh:∀xs,uT pts xs->b9 C.prog f xs [] (fun v _=>v=.bool true)) (W:World) (gk:∀w',Below W.heap.size W w'->GT w') (base:Nat) (args:Array Value) (bK gs:List (DataW H)) (before:List MemPlace)
 (rO:∀(j:Nat) t v,fn.params[j]? =some t->args[j]? =some v->Value.okWide C.prog W .any base t v) (ez:DataW.Whole enc C.prog fn.params.toList s.vars false W args.toList bK gs before):
 Calls C.prog f args W fun e y9=>∃v,e=.returned v/\s.post enc C.prog fn false fresh MJ false W args v y9:=by
 have aHC:=ez;have bx:=ez.lt;obtain⟨p,q,el,l6,rfl,m1,UN⟩:=ez;rw[H6] at l6;obtain⟨rfl,rfl⟩:=trodVars_none l6;obtain⟨xs,vJ,ag,h0,f0⟩:=QB (Γ:=Env.start W) (fun b o v h=>⟨v,h⟩) fn.params.toList args.toList bK p pts el (fun j t v aV aq=>rO j t v (by simpa using aV) (by simpa using aq)) pv;have om:ek W (Env.start W) xs args:=⟨by simpa using ag.symm,fun j x ad=>by
  have ap:j<xs.length:=(bo.1 ad).1;have tV:j<args.size:=by simpa[ag] using ap
  have:=f0 j x args[j] ad (by simp[tV]);rw[iq,Array.getElem?_eq_getElem tV];exact this⟩;refine((Eh xs vJ).2 W (Env.start W) args (Good.start W gk) om).mono fun e y9 he=>?_;obtain⟨v,bn,Γ',ah,rfl,rfl,an,_,tR⟩:=he;have aj:Below W.heap.size W y9:=tR.below;cases an with
 |bool=>
  have M6:=ak bK h0;refine⟨_,rfl,bK,[],p++[],[],p,[],aHC,?_,?_,?_,aj.frame _,fun h=>by cases h⟩
  . rw[fA,M6,fs]
    exact trodAll_mk1 (Go.RowKit.shut_bool NG _)
  . rw[fA,M6]
    exact XW N1 aj _ _ _ _ (fun t aV=>by
     have:=List.all_eq_true.1 NA t aV;simpa using this) el (fun x ad=>bx x (by simp[ad]))
  . rw[fA,M6,H6]
    rfl
theorem aLH{H:Type}{enc:TypeId×Value->H}{C:Checked}{os:Os}{f:FuncId}{fn:Func}{s:ChangeSpec}{Rz:List PathCond}{fresh MJ:Bool}{pts:List sm}{tb:TypeId}{a:Assume}
 (own:ownKnob C.prog.godebug=none)(N1:laidOutB C.prog=true)(EL:os.Started)(aM0:C.prog.inits.idxOf? f=none)(M5:C.prog.funcs[f]? =some fn)
 (H6:s.vars=[])(ak:∀bK:List (DataW H),bK.length=pts.length->s.fn H bK={results:=[.lit (.bool true)],args:=bK})
 (pv:AF C.prog fn.params.toList=some pts)(NA:WK C.prog fn.params.toList=true)(fs:fn.resultTypes=#[tb]) (NG:C.prog.underlying tb=some .bool)
 (aQw:∃(w:World)(tape:Tape)(i:Input),w.os=os/\(w.forCall tape i).Shaped C.prog/\i.vars=[]/\Input.okWide C.prog (w.forCall tape i) .any w.heap.size f i/\
   s.pre6 enc C.prog fn Rz false (w.forCall tape i).memory i.args/\a.holds C.prog (lone (Frame.enter C.prog f i.args .normal) [] (w.forCall tape i)))
 (Eh:∀xs,uT pts xs->b9 C.prog f xs [] (fun v _=>v=.bool true)) (fQ:∀w:World,GT w:=by exact fun _=>trivial):
 ReturnsInHanded a C os f .any (s.pre6 enc C.prog fn Rz false) (s.post enc C.prog fn false fresh MJ false):=
 returnsInHanded_of_change (C:=C) own EL aM0 M5 aQw fun W base args bK gs before rO ez _ _=>
  aLo N1 H6 ak pv NA fs NG Eh W (fun w' _=>fQ w') base args bK gs before rO ez
end Go.aL
namespace Go.aL
abbrev oW:=Nat->List V->Mem->Option (V×Mem)
abbrev Out:=Exit×aI×Mem
def w7(cm:oW)(q:Bool)(f:Nat)(args:List V)(M:Mem):Option (V×Mem):=
 match q with
 |false=>cm f args M
 |true=>
  bif cT 0 args then
   match cm f args [] with
   |some (v,[])=>bif v.under 0 then some (v,M) else none
   |_=>none
  else none
def L3(cm:oW)(q:Bool)(f:V)(args:List V)(M:Mem):Option (V×Mem):=
 match f with
 |.dF f c3=>w7 cm q f (args++c3) M
 |.fn f c3=>w7 cm q f (args++c3) M
 |_=>none
def Bx(s:aI)(dst:Option Nat)(bz:Bool)(r:Option (V×Mem)):Option (aI×Mem):=
 match r with
 |some (v,M)=>
  match bz with
  |true=>match v with|.bool b=>some (bA s dst (.bool b),M)|_=>none
  |false=>some (bA s dst v,M)
 |none=>none
def zq(cm:oW)(q:Bool)(o:dM)(dst:Option Nat)(bz:Bool)(s:aI)(M:Mem):Option (aI×Mem):=
 match o with
 |.call f args=>Bx s dst bz (w7 cm q f (e_ s args) M)
 |.fX jB args=>Bx s dst bz (L3 cm q (aP s jB) (e_ s args) M)
 |op=>
  match op.ht with
  |true=>match m_ op s M with|some (v,ah)=>some (bA s dst v,ah)|none=>none
  |false=>Bx s dst bz (match hU op s M with|some v=>some (v,M)|none=>none)
def ty(cm:oW)(q:Bool):List bw->aI->Mem->Option (aI×Mem)
 |[],s,M=>some (s,M)
 |⟨dst,op,bz,none⟩::os,s,M=>
  match zq cm q op dst bz s M with
  |some (aO,ah)=>ty cm q os aO ah
  |none=>none
 |⟨dst,op,bz,some (g,gW)⟩::os,s,M=>
  match aX s g with
  |.bool b=>
   bif b==gW then
    match zq cm q op dst bz (eP s g (.bool b)) M with
    |some (aO,ah)=>ty cm q os aO ah
    |none=>none
   else ty cm q os (bA (eP s g (.bool b)) dst (.tuple [])) M
  |.tuple []=>ty cm q os (bA s dst (.tuple [])) M
  |_=>none
def Bv(cm:oW)(q:Bool)(o:bw)(s:aI)(M:Mem):Option (aI×Mem):=
 match o with
 |⟨dst,op,bz,none⟩=>zq cm q op dst bz s M
 |⟨dst,op,bz,some (g,gW)⟩=>
  match aX s g with
  |.bool b=>
   bif b==gW then zq cm q op dst bz (eP s g (.bool b)) M
   else some (bA (eP s g (.bool b)) dst (.tuple []),M)
  |.tuple []=>some (bA s dst (.tuple []),M)
  |_=>none
def zo(cm:oW):List bw->List Bool->aI->Mem->Option (aI×Mem)
 |o::os,q::dR,s,M=>
  match Bv cm q o s M with
  |some (aO,ah)=>zo cm os dR aO ah
  |none=>none
 |_,_,s,M=>some (s,M)
mutual
def j8:V->V->Bool
 |.undef,.undef=>true
 |.bool a,.bool b=>a==b
 |.int k a,.int dk b=>decide (k=dk)&&decide (a=b)
 |.str a,.str b=>decide (a=b)
 |.dE,.dE=>true
 |.gz,.gz=>true
 |.jJ,.jJ=>true
 |.slice a c,.slice b d=>AU a b&&decide (c=d)
 |.gA a,.gA b=>oO a b
 |.c7 a,.c7 b=>oO a b
 |.dF f a,.dF g b=>ey f g&&oO a b
 |.ptr i o,.ptr j p=>ey i j&&ey o p
 |.fq i v r o,.fq eO dT fO o'=>ey i eO&&ey v dT&&ey r fO&&ey o o'
 |.aZ i v r o,.aZ eO dT fO o'=>ey i eO&&ey v dT&&ey r fO&&ey o o'
 |.map i,.map j=>ey i j
 |.fn f a,.fn g b=>ey f g&&oO a b
 |.agg a,.agg b=>oO a b
 |.tuple a,.tuple b=>oO a b
 |_,_=>false
def oO:List V->List V->Bool
 |[],[]=>true
 |x::xs,y::bH=>j8 x y&&oO xs bH
 |_,_=>false
def AU:List (List V)->List (List V)->Bool
 |[],[]=>true
 |x::xs,y::bH=>oO x y&&AU xs bH
 |_,_=>false
end
def Bu:List (Nat×bw×aI×V)->Nat->Option (bw×aI×V)
 |[],_=>none
 |(i,x)::H,j=>match ey i j with|true=>some x|false=>Bu H j
def Vl:V->Bool
 |.bool _=>true
 |_=>false
def L1(cm:oW)(o:bw)(s:aI)(v:V)(M:Mem):Bool:=
 match o.op with
 |.call f args=>(match w7 cm true f (e_ s args) M with|some (x,_)=>j8 x v|none=>false)&&(!o.bz||Vl v)
 |op=>(match hU op s M with|some x=>j8 x v|none=>false)
def Bt(cm:oW)(H:List (Nat×bw×aI×V)):List Nat->Mem->Bool
 |[],_=>true
 |j::Ao,M=>
  (match Bu H j with
   |some (o,s,v)=>L1 cm o s v M
   |none=>false)&&Bt cm H Ao M
def u9(cm:oW):List bw->List (Option (List Nat))->Nat->List (Nat×bw×aI×V)->aI->Mem->Option (aI×Mem)
 |o::os,none::bR,n,H,s,M=>
  match Bv cm true o s M with
  |some (aO,ah)=>u9 cm os bR (n+1) ((n,o,s,p8 aO o.dst)::H) aO ah
  |none=>none
 |o::os,some l::bR,n,H,s,M=>
  match Bv cm false o s M with
  |some (aO,ah)=>bif Bt cm H l ah then u9 cm os bR (n+1) H aO ah else none
  |none=>none
 |_,_,_,_,s,M=>some (s,M)
def u_(body:aI->Mem->Option Out)(live:List Nat)(len:Nat):Nat->List V->Mem->Option Out
 |0,_,_=>none
 |k+1,vs,M=>
  match body (ln live vs) M with
  |some (.normal,s,ah)=>bif hT len (dr s live) ah then u_ body live len k (dr s live) (ah.take len) else u_ body live len k (dr s live) ah
  |r=>r
def o_(dB:aI->Mem->Option Out)(l:Nat)(live:List Nat):Nat->Option Out->Option Out
 |0,_=>none
 |k+1,some (.goto l',s,M)=>bif l'==l then o_ dB l live k (dB (ln live (dr s live)) M) else none
 |_+1,r=>r
def gu(cm:oW):Nat->a6->aI->Mem->Option Out
 |0,_,_,_=>none
 |n+1,c,s,M=>
  match c with
  |.skip=>some (.normal,s,M)
  |.label=>some (.normal,s,M)
  |.region aF live=>match ty cm false aF s M with|some (aO,ah)=>some (.normal,g7 aO live,ah)|none=>none
  |.mixed aF dR live=>match zo cm aF dR s M with|some (aO,ah)=>some (.normal,g7 aO live,ah)|none=>none
  |.sE _ _ _ _ _=>none
  |.float aF bL live=>match u9 cm aF bL 0 [] s M with|some (aO,ah)=>some (.normal,g7 aO live,ah)|none=>none
  |.seq a b=>
   match gu cm n a s M with
   |some (.normal,aO,ah)=>gu cm n b aO ah
   |r=>r
  |.cond c a b=>
   match aP s c with
   |.bool true=>gu cm n a s M
   |.bool false=>gu cm n b s M
   |_=>none
  |.block id a=>
   match gu cm n a s M with
   |some (.exit nF,aO,ah)=>bif nF==id then some (.normal,aO,ah) else some (.exit nF,aO,ah)
   |r=>r
  |.loop live a=>u_ (gu cm n a) live M.length n (dr s live) M
  |.scope l live a dB=>o_ (gu cm n dB) l live n (gu cm n a s M)
  |.exit id=>some (.exit id,s,M)
  |.goto l=>some (.goto l,s,M)
  |.ret=>some (.ret,s,M)
abbrev A5:=Nat->Option (bs×Bool)
def w8(fn:bs)(fN:Bool)(base:Nat)(s:aI)(ah:Mem):Option (V×Mem):=
 match pN s ah fn.results with
 |some v=>
  match fN with
  |true=>some (v,ah)
  |false=>
   match eY ah base 20 v with
   |some dT=>bif dT.under base&&decide (base<=ah.length)&&cq base (ah.take base) then some (dT,ah.take base) else none
   |none=>none
 |none=>none
section
variable{P:Program}{cm:oW}
def qY(P:Program)(cm:oW):Prop:=∀f args M v ah,cm f args M=some (v,ah)->b9 P f args M (fun x N=>x=v/\N=ah)
theorem FM(dg:qY P cm){q:Bool}{f:Nat}{args:List V}{M:Mem}{v:V}{ah:Mem}(h:w7 cm q f args M=some (v,ah)){K:V->Mem->Prop}(ao:K v ah):oQ P q f args M K:=by
 cases q with
 |false=>exact(dg _ _ _ _ _ h).mono fun x N ⟨a4,bd⟩=>by rw[a4,bd];exact ao
 |true=>
  simp only[w7] at h;cases hu:cT 0 args with
  |false=>simp[hu] at h
  |true=>
   simp only[hu,cond_true] at h;split at h
   . rename_i ae ar
     obtain⟨aD,e⟩:=fg h;simp only[d_] at e;obtain⟨rfl,rfl⟩:=e;have ay:bT P f args (fun x=>x=ae):=(dg _ _ _ _ _ ar).mono fun x N ⟨a4,bd⟩=>⟨a4,bd,by rw[a4];exact aD⟩;exact⟨ae,bT.call ay hu (fun x ad _=>⟨ad,rfl⟩),ao⟩
   . cases h
theorem aEj(dg:qY P cm){q:Bool}{f:V}{args:List V}{M:Mem}{v:V}{ah:Mem}(h:L3 cm q f args M=some (v,ah)){K:V->Mem->Prop}(ao:K v ah):mP P q f args M K:=by
 unfold L3 at h;split at h
 . exact FM dg h ao
 . exact FM dg h ao
 . cases h
theorem L6{s:aI}{dst:Option Nat}{bz:Bool}{r:Option (V×Mem)}{aO:aI}{ah:Mem}(h:Bx s dst bz r=some (aO,ah)):
 ∃v,r=some (v,ah)/\∀K:aI->Prop,K aO->kN s dst bz v K:=by
 unfold Bx at h;split at h
 . rename_i v cE
   split at h
   . split at h
     . simp only[aW,d_] at h
       obtain⟨rfl,rfl⟩:=h;exact⟨_,rfl,fun K ao=>ao⟩
     . cases h
   . simp only[aW,d_] at h
     obtain⟨rfl,rfl⟩:=h;exact⟨_,rfl,fun K ao=>ao⟩
 . cases h
theorem FN(dg:qY P cm){q:Bool}{o:dM}{dst:Option Nat}{bz:Bool}{s:aI}{M:Mem}{aO:aI}{ah:Mem}(h:zq cm q o dst bz s M=some (aO,ah)){K:aI->Mem->Prop}(ao:K aO ah):wpOp P q o dst bz s M K:=by
 unfold zq at h;unfold wpOp;split at h
 . obtain⟨v,aq,ay⟩:=L6 h
   exact FM dg aq (ay _ ao)
 . obtain⟨v,aq,ay⟩:=L6 h
   exact aEj dg aq (ay _ ao)
 . rename_i op xF aJA
   split
   . exact absurd rfl (xF _ _)
   . exact absurd rfl (aJA _ _)
   . simp[dM.ht,m_] at h
   . rename_i neg x y
     simp only[dM.ht,m_] at h;split at h
     . rename_i v cE ak
       simp only[aW,d_] at h;obtain⟨rfl,rfl⟩:=h;unfold th;cases aD:xj (aP s x) (aP s y) with
       |true=>
        unfold xj at aD;split at aD
        . rename_i a4 bd
          rw[a4,bd] at ak;cases ak
        . cases aD
       |false=>
        show tp _ _;rw[ak];exact ao
     . cases h
   . split at h
     . rename_i hm
       rw[hm];split at h
       . rename_i v cE ak
         simp only[aW,d_] at h;obtain⟨rfl,rfl⟩:=h;rw[ak];exact ao
       . cases h
     . rename_i hm
       rw[hm];obtain⟨v,aq,ay⟩:=L6 h;split at aq
       . rename_i nj ak
         simp only[aW,d_] at aq;obtain⟨rfl,rfl⟩:=aq;have:=ay (fun aO=>K aO M) ao;rw[ak];cases bz with
         |true=>exact this
         |false=>exact this
       . cases aq
theorem Bw(dg:qY P cm){q:Bool}:∀(os:List bw)(s:aI)(M:Mem)(aO:aI)(ah:Mem),ty cm q os s M=some (aO,ah)->∀K:aI->Mem->Prop,K aO ah->wpOps P q os s M K
 |[],s,M,aO,ah,h,K,ao=>by
  simp only[ty,aW,d_] at h;obtain⟨rfl,rfl⟩:=h;exact ao
 |⟨dst,op,bz,none⟩::os,s,M,aO,ah,h,K,ao=>by
  unfold ty at h;split at h
  . rename_i s1 cE aa
    exact FN dg aa (Bw dg os _ _ _ _ h K ao)
  . cases h
 |⟨dst,op,bz,some (g,gW)⟩::os,s,M,aO,ah,h,K,ao=>by
  unfold ty at h;unfold wpOps;split at h
  . rename_i b aj
    rw[aj];cases sH:(b==gW) with
    |true=>
     have:b=gW:=by simpa using sH
     subst this;simp only[sH,cond_true] at h;split at h
     . rename_i s1 cE aa
       have af:=FN (P:=P) dg aa (K:=fun aO ah=>wpOps P q os aO ah K) (Bw dg os _ _ _ _ h K ao);cases b with
       |true=>exact af
       |false=>exact af
     . cases h
    |false=>
     simp only[sH,cond_false] at h;have af:=Bw dg os _ _ _ _ h K ao;cases b<;>cases gW<;>simp at sH
     . exact af
     . exact af
  . rename_i aj
    rw[aj];exact Bw dg os _ _ _ _ h K ao
  . cases h
theorem L5(dg:qY P cm){q:Bool}{o:bw}{s:aI}{M:Mem}{aO:aI}{ah:Mem}(h:Bv cm q o s M=some (aO,ah)){K:aI->Mem->Prop}(ao:K aO ah):hz P q o s M K:=by
 obtain⟨dst,op,bz,g⟩:=o;cases g with
 |none=>exact FN dg h ao
 |some nv=>
  obtain⟨g,gW⟩:=nv;unfold Bv at h;unfold hz;simp only at h⊢;split at h
  . rename_i b aj
    rw[aj];simp only;cases sH:(b==gW) with
    |true=>
     have:b=gW:=by simpa using sH
     subst this;simp only[sH,cond_true] at h;cases b<;>exact FN dg h ao
    |false=>
     simp only[sH,cond_false,aW,d_] at h;obtain⟨rfl,rfl⟩:=h;cases b<;>cases gW<;>simp at sH<;>exact ao
  . rename_i aj
    rw[aj];simp only[aW,d_] at h;obtain⟨rfl,rfl⟩:=h;exact ao
  . cases h
theorem R6(dg:qY P cm):∀(os:List bw)(dR:List Bool)(s:aI)(M:Mem)(aO:aI)(ah:Mem),zo cm os dR s M=some (aO,ah)->∀K:aI->Mem->Prop,K aO ah->uK P os dR s M K
 |o::os,q::dR,s,M,aO,ah,h,K,ao=>by
  unfold zo at h;split at h
  . rename_i s1 cE aa
    exact L5 dg aa (R6 dg os dR _ _ _ _ h K ao)
  . cases h
 |[],dR,s,M,aO,ah,h,K,ao=>by
  simp only[zo,aW,d_] at h;obtain⟨rfl,rfl⟩:=h;exact ao
 |o::os,[],s,M,aO,ah,h,K,ao=>by
  simp only[zo,aW,d_] at h;obtain⟨rfl,rfl⟩:=h;exact ao
mutual
theorem Pl:∀{x y:V},j8 x y=true->x=y
 |.undef,y,h=>by cases y<;>simp[j8] at h⊢
 |.bool a,y,h=>by cases y<;>simp[j8] at h⊢;exact h
 |.int k a,y,h=>by cases y<;>simp[j8] at h⊢;exact h
 |.str a,y,h=>by cases y<;>simp[j8] at h⊢;exact h
 |.dE,y,h=>by cases y<;>simp[j8] at h⊢
 |.gz,y,h=>by cases y<;>simp[j8] at h⊢
 |.jJ,y,h=>by cases y<;>simp[j8] at h⊢
 |.slice a c,y,h=>by
  cases y<;>simp only[j8,jh,cc,decide_eq_true_eq] at h;rw[X8 h.1,h.2]
 |.gA a,y,h=>by
  cases y<;>simp only[j8,jh] at h;rw[uI h]
 |.c7 a,y,h=>by
  cases y<;>simp only[j8,jh] at h;rw[uI h]
 |.dF f a,y,h=>by
  cases y<;>simp only[j8,jh,cc] at h;rw[uI h.2,oV h.1]
 |.ptr i o,y,h=>by cases y<;>simp[j8] at h⊢;exact h
 |.fq i v r o,y,h=>by
  cases y<;>simp[j8] at h⊢;obtain⟨⟨⟨aa,af⟩,az⟩,bh⟩:=h;exact⟨aa,af,az,bh⟩
 |.aZ i v r o,y,h=>by
  cases y<;>simp[j8] at h⊢;obtain⟨⟨⟨aa,af⟩,az⟩,bh⟩:=h;exact⟨aa,af,az,bh⟩
 |.map i,y,h=>by cases y<;>simp[j8] at h⊢;exact h
 |.fn f a,y,h=>by
  cases y<;>simp only[j8,jh,cc] at h;rw[uI h.2,oV h.1]
 |.agg a,y,h=>by
  cases y<;>simp only[j8,jh] at h;rw[uI h]
 |.tuple a,y,h=>by
  cases y<;>simp only[j8,jh] at h;rw[uI h]
theorem uI:∀{xs bH:List V},oO xs bH=true->xs=bH
 |[],[],_=>rfl
 |x::xs,y::bH,h=>by
  simp only[oO,cc] at h;rw[Pl h.1,uI h.2]
 |[],y::bH,h=>by simp[oO] at h
 |x::xs,[],h=>by simp[oO] at h
theorem X8:∀{xs bH:List (List V)},AU xs bH=true->xs=bH
 |[],[],_=>rfl
 |x::xs,y::bH,h=>by
  simp only[AU,cc] at h;rw[uI h.1,X8 h.2]
 |[],y::bH,h=>by simp[AU] at h
 |x::xs,[],h=>by simp[AU] at h
end
def Ft(P:Program)(H:List (Nat×bw×aI×V)):List (Nat×(Mem->Prop)):=H.map fun e=>(e.1,go P e.2.1 e.2.2.1 e.2.2.2)
theorem R4:∀{H:List (Nat×bw×aI×V)}{j:Nat}{x:bw×aI×V}{M:Mem},Bu H j=some x->go P x.1 x.2.1 x.2.2 M->nL (Ft P H) j M
 |[],j,x,M,h,_=>by simp[Bu] at h
 |(i,y)::H,j,x,M,h,ay=>by
  simp only[Bu] at h;simp only[Ft,hY,nL];split at h
  . rename_i aj
    simp only[aW] at h;subst h;rw[aj];exact ay
  . rename_i aj
    rw[aj];exact R4 (H:=H) h ay
theorem aEi(dg:qY P cm){o:bw}{s:aI}{v:V}{M:Mem}(h:L1 cm o s v M=true):go P o s v M:=by
 have pure:∀op,(match hU op s M with|some x=>j8 x v|none=>false)=true->hU op s M=some v:=fun op h=>by
  split at h
  . rename_i x ad
    rw[Pl h] at ad;exact ad
  . cases h
 obtain⟨dst,op,bz,g⟩:=o;cases op
 case call f args=>
  simp only[L1,cc] at h;obtain⟨aa,af⟩:=h;refine⟨?_,fun aj=>?_⟩
  . split at aa
    . rename_i x cE ad
      have a7:cE=M:=by
       simp only[w7] at ad;cases hu:cT 0 (e_ s args) with
       |false=>simp[hu] at ad
       |true=>
        simp only[hu,cond_true] at ad;split at ad
        . obtain⟨_,e⟩:=fg ad
          simp only[d_] at e;exact e.2.symm
        . cases ad
      have az:=FM (q:=true) dg ad (K:=fun y N=>y=x/\N=cE) ⟨rfl,rfl⟩;obtain⟨y,bh,bC,_⟩:=az;subst bC;rw[Pl aa] at bh;exact bh
    . cases aa
  . simp only at aj
    subst aj;cases v<;>simp[Vl] at af;exact⟨_,rfl⟩
 all_goals exact pure _ h
theorem R3(dg:qY P cm){H:List (Nat×bw×aI×V)}{M:Mem}:∀{l:List Nat},Bt cm H l M=true->kP (Ft P H) l M
 |[],_=>trivial
 |j::l,h=>by
  simp only[Bt,cc] at h;obtain⟨aa,af⟩:=h;refine⟨?_,R3 dg af⟩;split at aa
  . rename_i o s v aD
    exact R4 aD (aEi dg aa)
  . cases aa
theorem L4(dg:qY P cm):∀(os:List bw)(bR:List (Option (List Nat)))(n:Nat)(H:List (Nat×bw×aI×V))(s:aI)(M:Mem)(aO:aI)(ah:Mem),u9 cm os bR n H s M=some (aO,ah)->∀K:aI->Mem->Prop,K aO ah->mm P os bR n (Ft P H) s M K
 |o::os,none::bR,n,H,s,M,aO,ah,h,K,ao=>by
  unfold u9 at h;split at h
  . rename_i s1 cE aa
    exact L5 dg aa (L4 dg os bR _ _ _ _ _ _ h K ao)
  . cases h
 |o::os,some l::bR,n,H,s,M,aO,ah,h,K,ao=>by
  unfold u9 at h;split at h
  . rename_i s1 cE aa
    cases ar:Bt cm H l cE with
    |true=>
     simp only[ar,cond_true] at h;exact L5 dg aa ⟨R3 dg ar,L4 dg os bR _ _ _ _ _ _ h K ao⟩
    |false=>simp only[ar,cond_false,reduceCtorEq] at h
  . cases h
 |[],bR,n,H,s,M,aO,ah,h,K,ao=>by
  simp only[u9,aW,d_] at h;obtain⟨rfl,rfl⟩:=h;cases bR<;>exact ao
 |o::os,[],n,H,s,M,aO,ah,h,K,ao=>by
  simp only[u9,aW,d_] at h;obtain⟨rfl,rfl⟩:=h;exact ao
theorem aEp{body:aI->Mem->Option Out}{a:a6}{live:List Nat}{len:Nat}{Q:Exit->aI->Mem->Prop}(aj:∀s M e aO ah(cO:Exit->aI->Mem->Prop),body s M=some (e,aO,ah)->cO e aO ah->dn P a cO s M)
 :∀(k:Nat)(vs:List V)(M:Mem)(e:Exit)(aO:aI)(ah:Mem),u_ body live len k vs M=some (e,aO,ah)->Q e aO ah->
  ∀(dA:Nat->List V->Mem->Prop),(∀k vs M,(∃e aO ah,u_ body live len k vs M=some (e,aO,ah)/\Q e aO ah)->dA k vs M)->dn P a (nU dA k len live Q) (ln live vs) M
 |0,vs,M,e,aO,ah,h,_,_,_=>by simp[u_] at h
 |k+1,vs,M,e,aO,ah,h,aG,dA,lI=>by
  unfold u_ at h;split at h
  . rename_i s1 cE aa
    refine aj _ _ _ _ _ _ aa ?_;simp only[nU];cases ay:hT len (dr s1 live) cE with
    |true=>
     simp only[ay,cond_true] at h;exact .inr ⟨rfl,k,Nat.lt_succ_self k,lI _ _ _ ⟨_,_,_,h,aG⟩⟩
    |false=>
     simp only[ay,cond_false] at h;exact .inl ⟨k,Nat.lt_succ_self k,lI _ _ _ ⟨_,_,_,h,aG⟩⟩
  . rename_i cD
    refine aj _ _ _ _ _ _ h ?_;cases e with
    |normal=>exact absurd h (cD _ _)
    |_=>exact aG
theorem aEm{dB:aI->Mem->Option Out}{l:Nat}{live:List Nat}{k:Nat}{e:Exit}{s:aI}{M:Mem}(cD:∀l',e≠.goto l'){fx:Exit}{aO:aI}{ah:Mem}(h:o_ dB l live k (some (e,s,M))=some (fx,aO,ah)):fx=e/\aO=s/\ah=M:=by
 cases k with
 |zero=>simp[o_] at h
 |succ k=>
  unfold o_ at h;split at h
  . rename_i heq;simp at heq
  . rename_i heq
    simp only[aW,d_] at heq;exact absurd heq.1 (cD _)
  . rename_i heq
    simp only[aW,d_] at h;exact⟨h.1.symm,h.2.1.symm,h.2.2.symm⟩
theorem L2(dg:qY P cm):∀(n:Nat)(c:a6)(s:aI)(M:Mem)(e:Exit)(aO:aI)(ah:Mem)(Q:Exit->aI->Mem->Prop),gu cm n c s M=some (e,aO,ah)->Q e aO ah->dn P c Q s M
 |0,c,s,M,e,aO,ah,Q,h,_=>by simp[gu] at h
 |n+1,c,s,M,e,aO,ah,Q,h,aG=>by
  have bu:=L2 dg n;cases c with
  |skip=>simp only[gu,aW,d_] at h;obtain⟨rfl,rfl,rfl⟩:=h;exact aG
  |label=>simp only[gu,aW,d_] at h;obtain⟨rfl,rfl,rfl⟩:=h;exact aG
  |exit id=>simp only[gu,aW,d_] at h;obtain⟨rfl,rfl,rfl⟩:=h;exact aG
  |goto l=>simp only[gu,aW,d_] at h;obtain⟨rfl,rfl,rfl⟩:=h;exact aG
  |ret=>simp only[gu,aW,d_] at h;obtain⟨rfl,rfl,rfl⟩:=h;exact aG
  |region aF live=>
   simp only[gu] at h;split at h
   . rename_i s1 cE aa
     simp only[aW,d_] at h;obtain⟨rfl,rfl,rfl⟩:=h;exact Bw dg _ _ _ _ _ aa _ aG
   . cases h
  |mixed aF dR live=>
   simp only[gu] at h;split at h
   . rename_i s1 cE aa
     simp only[aW,d_] at h;obtain⟨rfl,rfl,rfl⟩:=h;exact R6 dg _ _ _ _ _ _ aa _ aG
   . cases h
  |sE c z aF bL live=>
   simp only[gu] at h;cases h
  |float aF bL live=>
   simp only[gu] at h;split at h
   . rename_i s1 cE aa
     simp only[aW,d_] at h;obtain⟨rfl,rfl,rfl⟩:=h;exact L4 dg _ _ _ _ _ _ _ _ aa _ aG
   . cases h
  |seq a b=>
   simp only[gu] at h;split at h
   . rename_i s1 cE aa
     exact bu a _ _ _ _ _ _ aa (bu b _ _ _ _ _ Q h aG)
   . rename_i cD
     refine bu a _ _ _ _ _ _ h ?_;cases e with
     |normal=>exact absurd h (cD _ _)
     |_=>exact aG
  |cond c a b=>
   simp only[gu] at h;simp only[dn];split at h
   . rename_i ar;rw[ar];exact bu a _ _ _ _ _ Q h aG
   . rename_i ar;rw[ar];exact bu b _ _ _ _ _ Q h aG
   . cases h
  |block id a=>
   simp only[gu] at h;simp only[dn];split at h
   . rename_i nF s1 cE aa
     refine bu a _ _ _ _ _ _ aa ?_;simp only[p5];cases ba:(nF==id) with
     |true=>
      simp only[ba,cond_true,aW,d_] at h⊢;obtain⟨rfl,rfl,rfl⟩:=h;exact aG
     |false=>
      simp only[ba,cond_false,aW,d_] at h⊢;obtain⟨rfl,rfl,rfl⟩:=h;exact aG
   . rename_i cD
     refine bu a _ _ _ _ _ _ h ?_;cases e with
     |exit nF=>exact absurd h (cD _ _ _)
     |_=>exact aG
  |loop live a=>
   simp only[gu] at h;refine⟨fun k vs cE=>∃e aO ah,u_ (gu cm n a) live M.length k vs cE=some (e,aO,ah)/\Q e aO ah,n,⟨e,aO,ah,h,aG⟩,fun k vs cE ⟨a4,s1,y4,aa,xL⟩=>?_⟩;exact aEp (fun s M e aO ah cO cn aJW=>bu a s M e aO ah cO cn aJW) k vs cE a4 s1 y4 aa xL _ (fun k vs M h=>h)
  |scope l live a dB=>
   simp only[gu] at h;have out:∀k(r:Out),(∃e aO ah,o_ (gu cm n dB) l live k (some r)=some (e,aO,ah)/\Q e aO ah)->
    (∃s1 cE,r=(.goto l,s1,cE)/\∃dk,k=dk+1/\∃e aO ah,o_ (gu cm n dB) l live dk (gu cm n dB (ln live (dr s1 live)) cE)=some (e,aO,ah)/\Q e aO ah)∨((∀l',r.1≠.goto l')/\Q r.1 r.2.1 r.2.2):=by
    intro k r ⟨e,aO,ah,h,aG⟩;obtain⟨ys,rs,WJ⟩:=r;by_cases aB:∃l',ys=.goto l'
    . obtain⟨l',rfl⟩:=aB
      cases k with
      |zero=>simp[o_] at h
      |succ k=>
       simp only[o_] at h;obtain⟨ag,h⟩:=rk h;have ag:l'=l:=by simpa using ag
       subst ag;exact .inl ⟨rs,WJ,rfl,k,rfl,e,aO,ah,h,aG⟩
    . have cD:∀l',ys≠.goto l':=fun l' he=>aB ⟨l',he⟩
      obtain⟨rfl,rfl,rfl⟩:=aEm cD h;exact .inr ⟨cD,aG⟩
   have part:∀(k:Nat)(c:a6)(s:aI)(M:Mem)(b6:List V->Mem->Prop),(∃e aO ah,o_ (gu cm n dB) l live k (gu cm n c s M)=some (e,aO,ah)/\Q e aO ah)->
    (∀vs cE dk,k=dk+1->(∃e aO ah,o_ (gu cm n dB) l live dk (gu cm n dB (ln live vs) cE)=some (e,aO,ah)/\Q e aO ah)->b6 vs cE)->dn P c (ug b6 l live Q) s M:=by
    intro k c s M b6 ⟨e,aO,ah,h,aG⟩ xo;cases an:gu cm n c s M with
    |none=>
     rw[an] at h;cases k<;>simp[o_] at h
    |some r=>
     rw[an] at h;refine bu c s M r.1 r.2.1 r.2.2 _ an ?_;rcases out k r ⟨e,aO,ah,h,aG⟩ with⟨s1,cE,rfl,dk,i7,cn⟩|⟨cD,rK⟩
     . exact⟨rfl,xo _ _ dk i7 cn⟩
     . obtain⟨ys,rs,WJ⟩:=r
       cases ys with
       |goto l'=>exact absurd rfl (cD l')
       |_=>exact rK
   refine⟨fun k vs cE=>∃e aO ah,o_ (gu cm n dB) l live k (gu cm n dB (ln live vs) cE)=some (e,aO,ah)/\Q e aO ah,?_,fun k vs cE cn=>?_⟩
   . exact part n a s M _ ⟨e,aO,ah,h,aG⟩ (fun vs cE dk _ cn=>⟨dk,cn⟩)
   . exact part k dB _ cE _ cn (fun vs y4 dk i7 Nb=>⟨dk,by omega,Nb⟩)
def p3(P:Program)(jO:A5):Prop:=∀f fn k,jO f=some (fn,k)->∃h,bB P h f=some fn
theorem aEk{fn:bs}{base:Nat}{s:aI}{ah:Mem}{v:V}{N:Mem}(h:w8 fn true base s ah=some (v,N)):pN s ah fn.results=some v/\N=ah:=by
 unfold w8 at h;split at h
 . rename_i ae aq
   simp only[aW,d_] at h;obtain⟨rfl,rfl⟩:=h;exact⟨aq,rfl⟩
 . cases h
theorem aEl{fn:bs}{base:Nat}{s:aI}{ah:Mem}{v:V}{N:Mem}(h:w8 fn false base s ah=some (v,N)):Kg base (fun x K=>x=v/\K=N) (pN s ah fn.results) ah:=by
 unfold w8 at h;split at h
 . rename_i ae aq
   rw[aq];simp only at h;split at h
   . rename_i nj aD
     obtain⟨aj,e⟩:=fg h;simp only[d_] at e;obtain⟨rfl,rfl⟩:=e;show kZ (eY ah base 20 ae) _;rw[aD];exact⟨aj,rfl,rfl⟩
   . cases h
 . cases h
def mj:List (Nat×bs×Bool)->A5
 |[],_=>none
 |(n,fn,k)::r,f=>bif n==f then some (fn,k) else mj r f
theorem KB:p3 P (mj []):=fun _ _ _ h=>by simp[mj] at h
theorem dP{n:Nat}{fn:bs}{k:Bool}{r:List (Nat×bs×Bool)}{h:Hints}(aD:bB P h n=some fn)(an:p3 P (mj r)):p3 P (mj ((n,fn,k)::r)):=fun f aFc dk e=>by
 simp only[mj] at e;cases aj:(n==f) with
 |true=>
  simp only[aj,cond_true,aW,d_] at e;have:n=f:=by simpa using aj
  subst this;rw[<-e.1];exact⟨h,aD⟩
 |false=>
  simp only[aj,cond_false] at e;exact an f aFc dk e
end
end Go.aL
namespace Go.aL
end Go.aL
namespace Go.aL
def yK(dA:Nat->List V->Mem->Prop)(n:Nat)(m:Nat)(vs:List V)(M:Mem):Prop:=∃i,m=n -i/\i<=n/\dA i vs M
theorem cS{dA:Nat->List V->Mem->Prop}{n i len:Nat}{live:List Nat}{Q:Exit->aI->Mem->Prop}{s:aI}{M:Mem}(h:i<n)(lI:dA (i+1) (dr s live) M):
 nU (yK dA n) (n -i) len live Q .normal s M:=uB (n -(i+1)) (by omega) ⟨i+1,rfl,h,lI⟩
theorem dJ{dA:Nat->List V->Mem->Prop}{n i len:Nat}{live:List Nat}{Q:Exit->aI->Mem->Prop}{s:aI}{M:Mem}(h:i<n)(ay:hT len (dr s live) M=true)(lI:dA (i+1) (dr s live) (M.take len)):
 nU (yK dA n) (n -i) len live Q .normal s M:=Kp (n -(i+1)) (by omega) ay ⟨i+1,rfl,h,lI⟩
theorem ge{P:Program}{live:List Nat}{a:a6}{Q:Exit->aI->Mem->Prop}{s:aI}{M:Mem}(n:Nat)(dA:Nat->List V->Mem->Prop)(a8:dA 0 (dr s live) M)
 (step:∀i vs cE,i<n->decide ((i:Int)<(n:Int))=true->dA i vs cE->dn P a (nU (yK dA n) (n -i) M.length live Q) (ln live vs) cE)
 (last:∀vs cE,dA n vs cE->dn P a (nU (yK dA n) 0 M.length live Q) (ln live vs) cE):dn P (.loop live a) Q s M:=by
 refine lT (yK dA n) n ⟨0,rfl,fR _,a8⟩ ?_;rintro m vs cE ⟨i,rfl,hi,h⟩;rcases mR i n with bx|pl
 . exact step i vs cE bx (decide_eq_true (by omega)) h
 . have e:i=n:=by omega
   subst e;have:=last vs cE h;rwa [mS]
theorem ej{α:Type}{P:Program}{live:List Nat}{a:a6}{Q:Exit->aI->Mem->Prop}{s:aI}{M:Mem}(l:List α)(dA:Nat->List V->Mem->Prop)(a8:dA 0 (dr s live) M)
 (step:∀i x vs cE,l[i]? =some x->i<l.length->decide ((i:Int)<(l.length:Int))=true->dA i vs cE->dn P a (nU (yK dA l.length) (l.length -i) M.length live Q) (ln live vs) cE)
 (last:∀vs cE,dA l.length vs cE->dn P a (nU (yK dA l.length) 0 M.length live Q) (ln live vs) cE):dn P (.loop live a) Q s M:=
 ge l.length dA a8 (fun i vs cE hi aw h=>step i l[i] vs cE (gg hi) hi aw h) last
theorem db(a:Int):decide (a<a)=false:=by simp
theorem aCT{P:Program}{f:Nat}{args:List V}{v:V}{M:Mem}{K:V->Mem->Prop}(h:bT P f args (fun x=>x=v))(hu:cT 0 args=true)(ao:K v M):b9 P f args M K:=
 bT.call h hu (fun x ad _=>by rw[ad];exact ao)
def ev(n:Int):Prop:=-9223372036854775808<=n/\n<=9223372036854775807
theorem aKG{n:Int}(h:(Lit.int .i64 n).wf=true):ev n:=by
 have e:IntKind.i64.min=-9223372036854775808:=by decide
 have fx:IntKind.i64.max=9223372036854775807:=by decide
 simp only[Lit.wf,e,fx,cc,decide_eq_true_eq] at h;exact h
theorem tM{vs:List V}(h:mV [] vs):vs=[]:=List.length_eq_zero_iff.1 h.1
theorem eV{e9:gC}{iX:List gC}{vs:List V}(h:mV (e9::iX) vs):∃x bH,vs=x::bH/\mo e9 x/\mV iX bH:=by
 obtain⟨ag,h⟩:=h;cases vs with
 |nil=>simp at ag
 |cons x bH=>exact⟨x,bH,rfl,h 0 x e9 rfl rfl,by simpa using ag,fun j y c a b=>h (j+1) y c (by simpa using a) (by simpa using b)⟩
theorem qd{v:V}(h:mo .bool v):∃b,v=.bool b:=by cases h;exact⟨_,rfl⟩
theorem hJ{v:V}(h:mo (.int .i64) v):∃n,v=.int .i64 n/\ev n:=by
 cases h with
 |int k n hw=>exact⟨n,rfl,aKG hw⟩
theorem HE{v:V}(h:mo .str v):∃s,v=.str s/\s.length<=maxLen:=by cases h;exact⟨_,rfl,‹_›⟩
theorem xq{α:Type}{row:α->List V}{wf:α->Prop}{iX:List gC}(an:∀vs,mV iX vs->∃t,vs=row t/\wf t){v:V}(h:mo (.slice iX) v):
 ∃(l:List α)(c:c4),v=.slice (l.map row) c/\(∀t∈l,wf t)/\l.length<=maxLen/\(c=.nil/\l=[]∨c=.any):=by
 cases h with
 |slice _ rows c ar ag a_ h=>
  have key:∀rows:List (List V),(∀r∈rows,mV iX r)->∃l:List α,rows=l.map row/\∀t∈l,wf t:=by
   intro rows;induction rows with
   |nil=>exact fun _=>⟨[],rfl,by simp⟩
   |cons r rows bu=>
    intro cn;obtain⟨t,rfl,aV⟩:=an r (cn r (by simp));obtain⟨l,rfl,ag⟩:=bu fun fO hH=>cn fO (by simp[hH]);exact⟨t::l,rfl,by simpa using⟨aV,ag⟩⟩
  obtain⟨l,rfl,aKu⟩:=key rows fun r jY=>by
   obtain⟨i,hi⟩:=ir jY;exact⟨a_ i r hi,fun j x e9 a b=>h i r j x e9 hi a b⟩
  refine⟨l,c,rfl,aKu,by simpa using ag,?_⟩;rcases ar with⟨aa,af⟩|aa
  . exact .inl ⟨aa,by simpa using af⟩
  . exact .inr aa
theorem aHJ{xs:List V}(h:uT [] xs):xs=[]:=h
theorem Uc{p:sm}{cX:List sm}{xs:List V}(h:uT (p::cX) xs):∃x bH,xs=x::bH/\K1 p x/\uT cX bH:=h
def sD(e:Nat->Int)(n:Nat):Int×Int:=
 match(c5 n).find? (fun k=>decide (e k≠0)) with
 |some k=>((k:Int),e k)
 |none=>(0,0)
theorem aES{e:Nat->Int}{n i:Nat}(hi:i<n)(h:∀k,k<i->e k=0)(he:e i≠0):sD e n=((i:Int),e i):=by
 have:(c5 n).find? (fun k=>decide (e k≠0))=some i:=by
  rw[List.find?_range_eq_some];exact⟨by simpa using he,by simpa using hi,fun j ap=>by simp[h j ap]⟩
 simp only[sD,this]
theorem Sm{e:Nat->Int}{n:Nat}(h:∀k,k<n->e k=0):sD e n=(0,0):=by
 have:(c5 n).find? (fun k=>decide (e k≠0))=none:=by
  rw[List.find?_eq_none];intro k ao;simp[h k (ka.1 ao)]
 simp only[sD,this]
end Go.aL
namespace Go.aL
class wD where p:Prop
class Zb where k:Bool->Prop
class Ze where k:V->Prop
class pY where k:V->Mem->Prop
def qW(b:Bool)[A:wD][B:wD]:Prop:=kc b A.p B.p
def iF(o:Option V)[K:Ze]:Prop:=kZ o K.k
def hZ(o:Option V)[K:Zb]:Prop:=tn o K.k
def kw(o:Option (V×Mem))[K:pY]:Prop:=tp o K.k
def qX(P:Program)(f:Nat)(args:List V)(M:Mem)[K:pY]:Prop:=b9 P f args M K.k
def yW(P:Program)(f:Nat)(args:List V)(M:Mem)[K:pY]:Prop:=oQ P true f args M K.k
def yX(P:Program)(q:Bool)(f:V)(args:List V)(M:Mem)[K:pY]:Prop:=mP P q f args M K.k
def K_(neg:Bool)(x y:V)(M:Mem)[K:pY]:Prop:=th neg x y M K.k
def PS(x:V)(M:Mem)[K:pY]:Prop:=sf x M K.k
def PF(P:Program)(f:Nat)(args:List V)(M:Mem)(n:Nat)(z:List V)[K:pY]:Prop:=KT P f args M n (.box z) K.k
theorem YG(A:Prop)(B:wD):@qW true ⟨A⟩ B=A:=rfl
theorem YE(A:wD)(B:Prop):@qW false A ⟨B⟩=B:=rfl
theorem YF(b:Bool)(A B:wD):@qW (!b) A B=@qW b B A:=by cases b<;>rfl
theorem J6(b:Bool)(A B:Prop):@qW b ⟨A⟩ ⟨B⟩=kc b A B:=rfl
theorem aaO(v:V)(K:V->Prop):@iF (some v) ⟨K⟩=K v:=rfl
theorem aaM(b:Bool)(K:Bool->Prop):@hZ (some (.bool b)) ⟨K⟩=K b:=rfl
theorem aaN(v:V)(M:Mem)(K:V->Mem->Prop):@kw (some (v,M)) ⟨K⟩=K v M:=rfl
theorem aDt(t:Bool)(A B:Prop):Bl (.bool t) A B=@qW t ⟨A⟩ ⟨B⟩:=rfl
theorem YP(P:Program)(f:Nat)(c3 args:List V)(M:Mem)(K:pY):@yX P false (.dF f c3) args M K=@qX P f (args++c3) M K:=rfl
theorem YO(P:Program)(f:Nat)(c3 args:List V)(M:Mem)(K:pY):@yX P false (.fn f c3) args M K=@qX P f (args++c3) M K:=rfl
theorem YN(P:Program)(f:Nat)(c3 args:List V)(M:Mem)(K:pY):@yX P true (.dF f c3) args M K=@yW P f (args++c3) M K:=rfl
theorem YM(P:Program)(f:Nat)(c3 args:List V)(M:Mem)(K:pY):@yX P true (.fn f c3) args M K=@yW P f (args++c3) M K:=rfl
theorem a5{p:Prop}[Decidable p]{A B:Prop}(aa:p->A)(af:¬p->B):@qW (decide p) ⟨A⟩ ⟨B⟩:=A2 aa af
theorem ck{b:Bool}{A B:Prop}(aa:b=true->A)(af:b=false->B):@qW b ⟨A⟩ ⟨B⟩:=YJ aa af
theorem ew{P:Program}{f:Nat}{args:List V}{M:Mem}{R K:V->Mem->Prop}(h:b9 P f args M R)(ao:∀v ah,R v ah->K v ah):@qX P f args M ⟨K⟩:=b9.mono h ao
theorem b1{P:Program}{f:Nat}{args:List V}{v:V}{M:Mem}{K:V->Mem->Prop}(h:bT P f args (fun x=>x=v))(ao:K v M)(hu:cT 0 args=true:=by rfl):@qX P f args M ⟨K⟩:=aCT h hu ao
theorem fw{P:Program}{f:Nat}{args:List V}{R:V->Prop}{M:Mem}{K:V->Mem->Prop}(h:bT P f args R)(ao:∀v,R v->K v M)(hu:cT 0 args=true:=by rfl):@qX P f args M ⟨K⟩:=bT.call h hu (fun v aq _=>ao v aq)
theorem ho{P:Program}{f:Nat}{args:List V}{v:V}{M:Mem}{K:V->Mem->Prop}(h:b9 P f args M (fun x ah=>x=v/\ah=M))(ao:K v M):@qX P f args M ⟨K⟩:=
 b9.mono h fun x ah ⟨aa,af⟩=>by rw[aa,af];exact ao
theorem bV{P:Program}{f:Nat}{args:List V}{v:V}{M:Mem}{K:V->Mem->Prop}(h:bT P f args (fun x=>x=v))(ao:K v M)(hu:cT 0 args=true:=by rfl):@yW P f args M ⟨K⟩:=
 ⟨v,bT.call h hu (fun x ad _=>⟨ad,rfl⟩),ao⟩
theorem aCS{P:Program}{f:Nat}{args:List V}{v:V}{M:Mem}{K:V->Mem->Prop}(h:b9 P f args M (fun x ah=>x=v/\ah=M))(ao:K v M):@yW P f args M ⟨K⟩:=⟨v,h,ao⟩
theorem Fy{P:Program}{f:Nat}{args:List V}{v:V}{M:Mem}{n:Nat}{z:List V}{K:V->Mem->Prop}(h:bT P f args (fun x=>x=v))(aK:M[n]? =some .dead)(ao:K v M)(hu:cT 0 args=true:=by rfl):@PF P f args M n z ⟨K⟩:=
 ⟨v,M,aK,bT.call h hu (fun x ad _=>⟨ad,rfl⟩),bT.call h hu (fun x ad _=>⟨ad,rfl⟩),ao⟩
theorem aaT(neg:Bool)(i o j p:Nat)(M:Mem)(K:pY):@K_ neg (.ptr i o) (.ptr j p) M K=kw (yr neg (.ptr i o) (.ptr j p) M):=rfl
theorem aNh{neg:Bool}{cs bK:List V}{M:Mem}{K:V->Mem->Prop}(h:∀b:Bool,K (.bool b) M):@K_ neg (.c7 cs) (.c7 bK) M ⟨K⟩:=⟨h true,h false⟩
theorem aMV{id mid:Nat}{seen:List Nat}{es:List (V×V)}{M:Mem}{K:V->Mem->Prop}(aa:M[id]? =some (.iter mid es.length seen))(af:M[mid]? =some (.map es))(az:(∀i,i<es.length->i∈seen)->K (.tuple [.bool false]) M)
 (bh:∀i cB,es[i]? =some cB->i∉seen->K (.tuple [.bool true,cB.1,cB.2]) (M.set id (.iter mid es.length (seen++[i])))):@PS (.ptr id 0) M ⟨K⟩:=by
 show sf _ _ _;simp only[sf,aa,af];exact⟨trivial,az,bh⟩
end Go.aL
namespace Go.aL
theorem aK6(b6:List V->Mem->Prop)(l:Nat)(live:List Nat)(Q:Exit->aI->Mem->Prop)(s:aI)(M:Mem):ug b6 l live Q .normal s M=Q .normal s M:=rfl
theorem aK7(b6:List V->Mem->Prop)(l:Nat)(live:List Nat)(Q:Exit->aI->Mem->Prop)(s:aI)(M:Mem):ug b6 l live Q .ret s M=Q .ret s M:=rfl
theorem aK4(b6:List V->Mem->Prop)(l:Nat)(live:List Nat)(Q:Exit->aI->Mem->Prop)(id:Nat)(s:aI)(M:Mem):ug b6 l live Q (.exit id) s M=Q (.exit id) s M:=rfl
theorem aK5(b6:List V->Mem->Prop)(l:Nat)(live:List Nat)(Q:Exit->aI->Mem->Prop)(l':Nat)(s:aI)(M:Mem):ug b6 l live Q (.goto l') s M=(l'=l/\b6 (dr s live) M):=rfl
theorem Qy(sz bytes id ver len:Nat)(xr:List (List V))(c:c4)(M:Mem):dX false sz bytes (.aZ id ver 0 len) (.slice xr c) M=(bif fr sz xr then(match M[id]? with
 |some (.arr z rows v fz)=>
  bif z==sz&&v==ver&&len==rows.length&&decide ((rows.length+xr.length)*(2*bytes)<=2^48) then
   some (.aZ id (ver+1) 0 (len+xr.length),M.set id (.arr sz (rows++xr) (ver+1) fz))
  else bif z==sz&&v==ver&&decide (len<=rows.length)&&decide (fz<=len)&&decide ((len+xr.length)*(2*bytes)<=2^48) then
   some (.aZ id (ver+1) 0 (len+xr.length),M.set id (.arr sz (rows.take len++xr) (ver+1) fz))
  else none
 |some (.vec cells v)=>
  match xr with
  |[[x]]=>
   bif sz==1&&v==ver&&len==cells.length&&decide ((cells.length+1)*(2*bytes)<=2^48) then
    some (.aZ id (ver+1) 0 (len+1),M.set id (.vec (cells++[x]) (ver+1)))
   else none
  |_=>none
 |_=>none) else none):=by
 simp only[dX,eK];cases fr sz xr<;>rfl
theorem tq(sz bytes:Nat)(s:List (List V))(c cK:c4)(xr:List (List V))(M:Mem):dX true sz bytes (.slice s c) (.slice xr cK) M=(bif fr sz xr then bif fr sz s&&(decide (c=.nil)||decide (c=.full))&&decide ((s.length+xr.length)*(2*bytes)<=2^48) then some (.slice (s++xr) .cx,M) else none else none):=by
 simp only[dX,eK];cases fr sz xr<;>rfl
theorem Ui(n:Nat)(r:List V)(rs:List (List V)):fr n (r::rs)=(r.length==n):=rfl
theorem aIa(n:Nat):fr n []=true:=rfl
theorem vk{α:Type}{f:α->List V}{n:Nat}(h:∀x,(f x).length=n)(l:List α):fr n (l.map f)=true:=by
 cases l with
 |nil=>rfl
 |cons x l=>simp[fr,h]
theorem aMT(sz:Nat)(M:Mem)(h:0<sz):AC sz M=some (.aZ M.length 0 0 0,M++[.arr sz [] 0 0]):=by
 cases sz with
 |zero=>cases h
 |succ n=>rfl
theorem aMU(M:Mem):AC 0 M=some (.aZ M.length 0 0 0,M++[.vec [] 0]):=rfl
theorem aQa(cells:List V)(row:Nat):EQ 1 false 0 cells row=cells[row]? :=rfl
theorem aQd(x:V)(cells:List V)(row:Nat):KN 0 [x] cells row=bif decide (row<cells.length) then some (cells.set row x) else none:=rfl
theorem acR(id ver len:Nat)(M:Mem):su (.aZ id ver 0 len) M=(match M[id]? with
 |some (.arr z rows v _)=>bif z==1&&v==ver&&decide (len<=rows.length) then(zd (rows.take len)).map .str else none
 |_=>none):=by
 simp only[su,eK,ee,lW];cases M[id]? with
 |none=>rfl
 |some B=>
  cases B with
  |arr z rows v fz=>cases h:(z==1&&v==ver&&decide (len<=rows.length))<;>simp[h]
  |_=>rfl
theorem aDB{a b:Nat}(h:a<=b):decide (a<=b)=true:=decide_eq_true h
theorem aMv(k:IntKind)(a b:Int):sU true (.int k a) (.int k b)=some (.int k (max a b)):=by
 simp only[sU,decide_true,cond_true,Int.max_def]
 congr 2
 split<;>split<;>omega
theorem aMw(k:IntKind)(a b:Int):sU false (.int k a) (.int k b)=some (.int k (min a b)):=by
 simp only[sU,decide_true,cond_true,Int.min_def]
 congr 2
 split<;>split<;>omega
theorem aMC(f:Nat)(c3:List V):yi f c3=bif hC c3 then .dF f c3 else .fn f c3:=rfl
theorem acO(z:List V)(cX:List (Nat×Nat×V)):wS z cX=(match pb z cX with|some cs=>some (.agg cs)|none=>none):=rfl
theorem acL(z:List V)(sz len:Nat)(cX:List (Nat×Nat×V)):wR z sz len cX=(match pb z cX with|some cs=>bif hC cs then some (.slice (sx sz len cs) .full) else none|none=>none):=rfl
theorem Xf(sz:Nat)(rows:List (List V))(c:c4)(k dk:IntKind)(l h:Int)(M:Mem)(aa:0<=l)(af:l<=h)(az:h<=(rows.length:Int))(a_:fr sz rows=true):
 hf sz (.slice rows c) (some (.int k l)) (some (.int dk h)) none M=some (.slice ((rows.drop l.toNat).take (h.toNat -l.toNat)) (ns c h.toNat rows.length rows.length false)):=by
 have bW:decide (0<=l)=true:=decide_eq_true aa;have b8:decide (0<=h)=true:=decide_eq_true (by omega);have cN:decide (l.toNat<=h.toNat)=true:=decide_eq_true (by omega);have dl:decide (h.toNat<=rows.length)=true:=decide_eq_true (by omega);simp only[hf,iG,bW,b8,cN,dl,cond_true,a_,eQ,decide_true,cH,Option.isSome_none]
theorem Xe(sz:Nat)(rows:List (List V))(c:c4)(k:IntKind)(l:Int)(M:Mem)(aa:0<=l)(af:l<=(rows.length:Int))(a_:fr sz rows=true):
 hf sz (.slice rows c) (some (.int k l)) none none M=some (.slice (rows.drop l.toNat) (ns c rows.length rows.length rows.length false)):=by
 have bW:decide (0<=l)=true:=decide_eq_true aa;have cN:decide (l.toNat<=rows.length)=true:=decide_eq_true (by omega);simp only[hf,iG,bW,cN,cond_true,a_,eQ,decide_true,cH,Option.isSome_none];rw[g_ (by simp)]
theorem aPa(sz:Nat)(rows:List (List V))(c:c4)(dk:IntKind)(h:Int)(M:Mem)(af:0<=h)(az:h<=(rows.length:Int))(a_:fr sz rows=true):
 hf sz (.slice rows c) none (some (.int dk h)) none M=some (.slice (rows.take h.toNat) (ns c h.toNat rows.length rows.length false)):=by
 have b8:decide (0<=h)=true:=decide_eq_true (by omega);have dl:decide (h.toNat<=rows.length)=true:=decide_eq_true (by omega);simp only[hf,iG,b8,dl,cond_true,a_,eQ,decide_true,cH,Option.isSome_none,fR,Nat.sub_zero,lW]
theorem aMf(M:Mem):yc none M=some (.map M.length,M++[.map []]):=rfl
theorem aMh(k:IntKind)(n:Int)(M:Mem):yc (some (.int k n)) M=some (.map M.length,M++[.map []]):=rfl
def nK(c:fv)(z:V)(ok:Bool)(key:V)(es:List (V×V)):Option V:=oA c [z] false ok (.map 0) key [.map es]
def nZ(c:fv)(key x:V)(es:List (V×V)):Option (List (V×V)):=bif kI c key&&nI c key es&&x.iK then some (oB c key x es) else none
theorem N7(c:fv)(z:V)(ok:Bool)(id:Nat)(key:V)(M:Mem):oA c [z] false ok (.map id) key M=(match M[id]? with|some (.map es)=>nK c z ok key es|_=>none):=by
 simp only[nK,oA,m9,ji];cases h:M[id]? with
 |none=>cases kI c key<;>rfl
 |some B=>cases B<;>cases kI c key<;>rfl
theorem aP2(c:fv)(id:Nat)(key x:V)(M:Mem):Av c (.map id) key x M=(match M[id]? with|some (.map es)=>(match nZ c key x es with|some sB=>some (.undef,M.set id (.map sB))|none=>none)|_=>none):=by
 simp only[Av,N_,nZ];cases h:M[id]? with
 |none=>rfl
 |some B=>
  cases B with
  |map es=>simp only;cases kI c key&&nI c key es&&x.iK<;>rfl
  |box _=>rfl
  |arr _ _ _ _=>rfl
  |vec _ _=>rfl
  |iter _ _ _=>rfl
  |dead=>rfl
theorem acd(cA:List fE)(xs bH:List V):dN .eql (.cells cA) (.agg xs) (.agg bH)=(gG cA xs bH).map .bool:=rfl
theorem ace(cA:List fE)(xs bH:List V):dN .neq (.cells cA) (.agg xs) (.agg bH)=(gG cA xs bH).map fun b=>.bool !b:=rfl
theorem aC0(k:IntKind)(a b:Int):hE .int (.int k a) (.int k b)=some (decide (a=b)):=by simp[hE]
theorem aCZ(a b:Bool):hE .bool (.bool a) (.bool b)=some (decide (a=b)):=rfl
theorem aC1(a b:List UInt8):hE .str (.str a) (.str b)=some (decide (a=b)):=rfl
theorem aC7(xs bH:List V):gG [] xs bH=some true:=by cases xs<;>rfl
theorem aC6(c:fE)(cs:List fE)(x y:V)(xs bH:List V):gG (c::cs) (x::xs) (y::bH)=(match hE c x y,gG cs xs bH with|some b,some d=>some (b&&d)|_,_=>none):=rfl
theorem KD{α β:Type}(f:α->β)(l:List α):(l.map f).take l.length=l.map f:=g_ (by simp)
attribute [go_sem↓] aQA Yj aQH aQD aQF aQB aQC aQx aOQ aOR aOO aOP acB acC acz acA
 aOq aOo aOp aD9 aD_ aK6 aK7 aK4 aK5 Yn hg
attribute [go_sem] yr aaT acf acs acx acg aDt Wy aK_ pN yu EJ aaP aaO aaM aaN YG YE YF YK YH YI
 YP YO YN YM r8 aX ln dr
 cond_true cond_false ee iT cH decide_true decide_false
 acb acw acp acj acq aco acn acl ack act acu ach aci aPX aPW aNr aNp aKY Vk aKT aKZ aMJ aMH aMI aMG
 aLU aLS aLT aLO aLN VG Kx Kw aLD aLC aLx aEA RA aEN Fj Bi
 dC gY eu gX ji List.getElem?_cons_succ lW List.drop_succ_cons List.take_succ_cons List.take_zero List.nil_append List.cons_append List.set_cons_zero List.set_cons_succ
 V.cells? g5 nq V.iK Bool.and_true eQ Bool.true_and lY Option.map_none kU toNat_sub1 toNat_add1 toNat_lit0 n1
 eY jI V.under cT cq a1.under V.ku hC true_and and_true V.bool.injEq V.int.injEq V.str.injEq
 Qy tq Ui aIa aMT aMU aQa aQd acR aDB aMv aMw aMC acO acL pb sx acd ace aC0 aCZ aC1 aC7 aC6 aMf aMh N7 aP2 KD beq_self_eq_true Bool.not_true Bool.not_false oS Bool.and_false dz
end Go.aL
namespace Go.aL
def Ef:List (Nat×List V×V)->Nat->List V->Option V
 |[],_,_=>none
 |(g,xs,v)::r,f,args=>bif ey g f&&oO xs args then some v else Ef r f args
def EA:List (Nat×Nat)->Nat->Nat->Bool
 |[],_,_=>false
 |(a,b)::r,g,f=>(ey a g&&ey b f)||EA r g f
def rn(mI:List (Nat×List V×V))(pops:List (Nat×Nat))(jO:A5):Nat->Nat->oW
 |0,_,_,_,_=>none
 |n+1,g,f,args,M=>
  match Ef mI f args with
  |some v=>some (v,M)
  |none=>
   match jO f with
   |some (fn,fN)=>
    bif decide (args.length<=fn.ntmps) then
     match gu (rn mI pops jO n f) n fn.body (r8 args 0) M with
     |some (.normal,s,ah)=>w8 fn (fN&&!EA pops g f) M.length s ah
     |some (.ret,s,ah)=>w8 fn (fN&&!EA pops g f) M.length s ah
     |_=>none
    else none
   |none=>none
variable{P:Program}
def A7(P:Program)(mI:List (Nat×List V×V)):Prop:=∀f xs v,(f,xs,v)∈mI->cT 0 xs=true/\bT P f xs (fun x=>x=v)
theorem Vs:∀{mI:List (Nat×List V×V)}{f:Nat}{args:List V}{v:V},Ef mI f args=some v->(f,args,v)∈mI
 |[],f,args,v,h=>by simp[Ef] at h
 |(g,xs,y)::r,f,args,v,h=>by
  simp only[Ef] at h;cases aj:(ey g f&&oO xs args) with
  |true=>
   rw[aj] at h;simp only[cond_true,aW] at h;simp only[cc] at aj;rw[<-oV aj.1,<-uI aj.2,<-h];exact pV
  |false=>
   rw[aj] at h;exact n3 _ (Vs (by simpa using h))
theorem R5{mI:List (Nat×List V×V)}(rI:A7 P mI){pops:List (Nat×Nat)}{jO:A5}(H5:p3 P jO):∀n g,qY P (rn mI pops jO n g)
 |0,g,f,args,M,v,ah,h=>by simp[rn] at h
 |n+1,g,f,args,M,v,ah,h=>by
  have bu:=R5 (pops:=pops) rI H5 n f;unfold rn at h;split at h
  . rename_i ae ao
    simp only[aW,d_] at h;obtain⟨rfl,rfl⟩:=h;obtain⟨aa,af⟩:=rI _ _ _ (Vs ao);exact bT.call af aa fun x ad _=>⟨ad,rfl⟩
  split at h
  . rename_i fn fN aV
    obtain⟨ag,h⟩:=rk h;have ag:args.length<=fn.ntmps:=by simpa using ag
    obtain⟨cn,aD⟩:=H5 f fn fN aV;have fin:∀(e:Exit)(s:aI)(cE:Mem),(e=.normal∨e=.ret)->gu (rn mI pops jO n f) n fn.body (r8 args 0) M=some (e,s,cE)->w8 fn (fN&&!EA pops g f) M.length s cE=some (v,ah)->b9 P f args M (fun x N=>x=v/\N=ah):=by
     intro e s cE he ar hq;cases l9:(fN&&!EA pops g f) with
     |true=>
      rw[l9] at hq;obtain⟨aa,rfl⟩:=aEk hq;refine hl aD ag ?_;refine L2 bu n _ _ _ _ _ _ _ ar ?_;have l_:qz (fun x N=>x=v/\N=ah) (pN s ah fn.results) ah:=by rw[aa];exact⟨rfl,rfl⟩
      rcases he with rfl|rfl<;>exact l_
     |false=>
      rw[l9] at hq;refine bP aD ag ?_;refine L2 bu n _ _ _ _ _ _ _ ar ?_;rcases he with rfl|rfl<;>exact aEl hq
    split at h
    . rename_i s cE ar;exact fin _ _ _ (.inl rfl) ar h
    . rename_i s cE ar;exact fin _ _ _ (.inr rfl) ar h
    . cases h
  . cases h
theorem aNg{mI:List (Nat×List V×V)}(rI:A7 P mI){pops:List (Nat×Nat)}{jO:A5}(H5:p3 P jO)(n:Nat){f:Nat}{args:List V}{v:V}(h:rn mI pops jO n 0 f args []=some (v,[]))(hu:v.under 0=true):bT P f args (fun x=>x=v):=
 b9.mono (R5 rI H5 n 0 _ _ _ _ _ h) fun x N ⟨a4,bd⟩=>⟨a4,bd,by rw[a4];exact hu⟩
end Go.aL
