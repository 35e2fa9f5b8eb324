/- A part of the proof of TopFares: the abstract machine, the code that the statement reaches, the contracts of its functions. Part 5. The text is made short by a program. -/
import Derived.Test.YtbndjigedmpplaaGreatF4
set_option linter.unusedSimpArgs false
set_option linter.unusedVariables false
set_option linter.unusedSectionVars false
set_option maxHeartbeats 1000000
set_option maxRecDepth 10000
open List renaming getElem?_map->gY,length_map->eD,length_nil->gZ,length_take->iw,map_cons->hQ,mem_cons->jm,mem_of_getElem?->dO,mem_singleton->ht,not_mem_nil->mF,take_add_one->hR,take_length->g0
open Nat renaming le_refl->cF,le_trans->jH,not_lt_zero->fb,zero_add->ev,zero_le->fG
open Prod.mk renaming injEq->dX
namespace Go.aQ.C
open Go.aQ
section
variable(f:bd)(t:c3)
theorem Ps(l:List a1)(i k:Nat)(R:Nat->Option (List bK))(a:Option (List bK)):∀p,kP {f with tag:=t} l i k R a p=kP f l i k R a p
 |0=>rfl
 |p+1=>by
  show nO (kP _ l i k R a p) (i9 f l i k p R)=_;rw[Ps];rfl
theorem Pl(l:List a1)(i:Nat)(R:Nat->Option (List bK)):∀j,j3 {f with tag:=t} l i R j=j3 f l i R j
 |0=>rfl
 |j+1=>by
  show kP _ l i (i+j) R (j3 _ l i R j) f.cH.length=_;rw[Pl,Ps];rfl
theorem WG(l:List a1):∀j,fL {f with tag:=t} l j=fL f l j
 |0=>rfl
 |j+1=>by
  show jl (fL _ l j) _ (j3 _ l _ (fL _ l j) (j+1))=_;rw[WG,Pl];rfl
theorem aBH(l:List a1):go {f with tag:=t} l=go f l:=by
 unfold go i8;rw[WG];rfl
end
theorem aBG(n:Net)(q:Query)(l:List a1):go (gF n q).cY l=go n.cY l:=aBH n.cY _ l
theorem NT(n:Net)(q:Query)(i:Nat):(gF n q).runs[i]? =(n.runs[i]?).map (jd n q):=gY
theorem azQ(n:Net)(q:Query)(i:Nat):kR (gF n q) i=(kR n i).map (ho n q):=by
 simp only[kR,NT];cases n.runs[i]? <;>rfl
theorem aNK(n:Net)(q:Query):∀(cs:List cd),pB (gF n q) (cs.map (ho n q))=pB n cs:=by
 have:∀(cs:List cd)(a:Nat),(cs.map (ho n q)).foldl (fun z c=>z|||jT (rT (gF n q) c.stop)) a=cs.foldl (fun z c=>z|||jT (rT n c.stop)) a:=fun cs=>by
  induction cs with
  |nil=>exact fun _=>rfl
  |cons c cs bq=>
   intro a;simp only[hQ,List.foldl_cons,Au,bq];rfl
 exact fun cs=>this cs 0
theorem aNG(n:Net)(q:Query)(l:ca):AF (gF n q) l=AF n l:=by
 have e:qg (gF n q) l=(qg n l).map (ho n q):=by simp only[qg,azQ,List.map_take,List.map_drop]
 unfold AF;rw[e,aNK]
theorem aIV(n:Net)(q:Query)(l:ca):x1 (gF n q) l=x1 n l:=by
 unfold x1;rw[NT];cases n.runs[l.run.toNat]? <;>rfl
theorem aBu(n:Net)(q:Query)(l:ca):n3 (gF n q) l=n3 n l:=by
 unfold n3;rw[NT];cases n.runs[l.run.toNat]? with
 |none=>rfl
 |some r=>
  show(_&&(_&&(_&&decide (l.gP<(((r.calls.map (ho n q)).length:Nat):Int)))))=_;rw[eD]
theorem VU(n:Net)(q:Query):∀(aZ:List ca)(b:Bool)(out:List a1),px (gF n q) b aZ out=px n b aZ out
 |[],_,_=>rfl
 |l::ls,b,out=>by
  unfold px;rw[aBu];have e:kG (gF n q) out l=kG n out l:=by
   unfold kG NO Ar;rw[aNG,aIV]
  rw[e,VU n q ls]
theorem aK7(n:Net)(q:Query)(aZ:List ca):gL (gF n q) aZ=gL n aZ:=VU n q aZ _ _
theorem aK5(n:Net)(out:List a1)(l:ca):(kG n out l).length<=out.length+if l.stay then 0 else 1:=by
 unfold kG;split
 . split<;>simp
 . rename_i h
   have:l.stay=false:=by simpa using h
   simp
theorem VV(n:Net):∀(aZ:List ca)(b:Bool)(out:List a1),(px n b aZ out).2.length<=out.length+lC aZ
 |[],_,out=>cF _
 |l::ls,b,out=>by
  have e:lC (l::ls)=lC ls+if l.cR&&!l.stay then 1 else 0:=by unfold lC;rw[List.countP_cons]
  unfold px;split
  . exact fG _
  . split
    . exact fG _
    . refine jH (VV n ls _ _) ?_
      rw[e];cases al:l.cR with
      |false=>simp
      |true=>
       rw[if_pos rfl];have:=aK5 n out l;cases ak:l.stay<;>simp[ak] at this⊢<;>omega
theorem aK8(n:Net)(aZ:List ca):(gL n aZ).2.length<=lC aZ:=by
 have:=VV n aZ false [];rwa [gZ,ev] at this
structure AQ(n:Net)(q:Query)(o:c7):Prop where
 aZ:qG n o.aZ
 ends:Ends n o.aZ
 ln:(lC o.aZ:Int)<=q.b1
 len:o.aZ.length<=1000
 lc:o.lc=.cv
 Ej:o.Ej=.cv
 cost:o.cost=(lp n q o.aZ).1
 Ek:o.Ek=(lp n q o.aZ).2.1
 ok:(lp n q o.aZ).2.2=0
theorem aM9{n:Net}{q:Query}{d:Int->Nat}(E:Env n q d){l:aI}(h:j1 n q d l){o:c7}(az:o∈pA n q l):AQ n q o:=by
 have key:Ends n l.aZ->o∈kV n q l->AQ n q o:=by
  intro he az;unfold kV tk at az;split at az
  . split at az
    . rename_i a7
      rw[ht.1 az];have U:=h.ln;have af:=h.b1;have ay:=(h.Uv E).1.aZ;exact⟨h.aZ,he,by show(lC l.aZ:Int)<=q.b1;omega,by show l.aZ.length<=1000;omega,rfl,rfl,rfl,rfl,a7⟩
    . cases az
  . cases az
 unfold pA at az;split at az
 . rename_i ao
   unfold th at az;split at az
   . rename_i bk
     exact key (h.ll ao bk).1.ends az
   . cases az
 . rename_i ao
   exact key (h.on ao).ends az
theorem aAd{l:List c7}{o:c7}(h:o∈r8 l):o∈l:=by
 obtain⟨v,_,aq⟩:=List.mem_flatMap.1 h;unfold qm at aq;rw[Option.mem_toList] at aq;exact List.mem_of_find?_eq_some aq
theorem X4(n:Net)(q:Query)(aK:n.wf)(ok:g2 n)(aG:qK n.stops.length q)(ay:q.b1<=3)(aj:q.back=false):
 bQ av DD [.agg n.row,.agg q.row] (fun v=>∃L:List c7,v=.tuple [.slice (L.map c7.row) .cv,.int .i64 0]/\L.length<=400000000000/\∀o∈L,AQ (gF n q) (plain q) o):=by
 have Vc:=Kp n q ok;obtain⟨d,aw,b7⟩:=aKs Vc;have E:Env (gF n q) (plain q) d:=⟨Vc,aw,b7,aG.time,aG.b1,aG.walk,aG.src⟩;refine bQ.mono (aLx n q aK ok aG aj _ _ (aDK E ay)) ?_;rintro v ⟨A,O,rfl,bP⟩;have hlen:(r8 O).length<=400000000000:=by
  refine jH (Rv _ (Vv O) _) (jH (Lu _) ?_);rw[eD];exact bP.len
 refine⟨r8 O,rfl,hlen,fun o az=>?_⟩;obtain⟨l,ag,aq⟩:=bP.from_ o (aAd az);exact aM9 E ag aq
end Go.aQ.C
namespace Go.aQ.C
open Go.aQ
theorem aKe{f:bd}{l:List a1}(ar:(j6 f).2=0)(hlen:l.length<=8)(a4:(go f l).2.2=0):ym f (gJ f l)=((go f l).1,true):=by
 have bR:=wK ar;obtain⟨aq,d,aj,he⟩:=Rc a4;obtain⟨cU,eW⟩:=bR.mw;rw[he];have:=(wL bR _ _ (uM (by omega) aj)).1;unfold gJ;rw[aj];simp only[ym,if_neg (show¬e7 d<0 by omega),pL];split<;>split<;>simp<;>omega
theorem aM6{f:bd}{l:List a1}(a4:(go f l).2.2=0):wd f l (go f l).2.1=((go f l).1,0):=by
 obtain⟨aq,d,aj,he⟩:=Rc a4;rw[he];exact aM5 aq aj
theorem AQ.tj{n:Net}{q jU:Query}{o:c7}(h:AQ (gF n q) jU o):(gL n o.aZ).1=0/\(go n.cY (gL n o.aZ).2).2.2=0/\o.cost.tj=(go n.cY (gL n o.aZ).2).1/\o.Ek=(go n.cY (gL n o.aZ).2).2.1:=by
 have U:=h.cost;have af:=h.Ek;have ay:=h.ok;unfold lp at U af ay;simp only[aK7,aBG] at U af ay;by_cases a6:(gL n o.aZ).1=0
 . rw[if_neg (by simpa using a6)] at U af ay
   by_cases ba:(go n.cY (gL n o.aZ).2).2.2=0
   . rw[if_neg (by simpa using ba)] at U af
     exact⟨a6,ba,by rw[U],af⟩
   . rw[if_pos ba] at ay;exact absurd ay ba
 . rw[if_pos a6] at ay;exact absurd ay a6
theorem aac(n:Net)(q:Query)(aK:n.wf)(hw:bQ av C.IZ [] (fun v=>v=.bool true)):bQ av IY [.agg n.row,.agg q.row] (fun v=>v=.bool true):=by
 refine bZ aDw (by simp[GL]) ?_;simp-implicitDefEqProofs (disch:=omega) only[go_sem,GL,Net.row,Query.row];refine fI (aBW n q aK) ?_;rintro v ⟨b,rfl,aj⟩;simp-implicitDefEqProofs (disch:=omega) only[go_sem];refine cp (fun aW=>?_) (fun aW=>?_);rotate_left
 . simp-implicitDefEqProofs (disch:=omega) only[go_sem]
   first|refine b0 (hw) ?_|refine bV (hw) ?_
   simp-implicitDefEqProofs (disch:=omega) only[go_sem]
 obtain⟨ok,aG,ay⟩:=aj aW;simp-implicitDefEqProofs (disch:=omega) only[go_sem];refine cp (fun a9=>?_) (fun a9=>?_)
 . simp-implicitDefEqProofs (disch:=omega) only[go_sem]
   first|refine b0 (hw) ?_|refine bV (hw) ?_
   simp-implicitDefEqProofs (disch:=omega) only[go_sem]
 simp-implicitDefEqProofs (disch:=omega) only[go_sem,↓br 8];refine fI (X4 n q aK ok aG ay a9) ?_;rintro v ⟨L,rfl,kX,dh⟩;have tx:(j6 n.cY).2=0:=by rw[ok.ok.cY]
 have Hb:=wK tx;have Hd:=aK.cY;simp-implicitDefEqProofs (disch:=omega) only[go_sem,↓br 10];obtain⟨gO,GW⟩:∃gO:Mem,gO=[.box n.row,.box q.row]:=⟨_,rfl⟩;have lx:gO[0]? =some (.box n.row):=by rw[GW];rfl
 simp only[Net.row,Query.row] at GW lx;rw[<-GW];refine ek L (fun i vs N=>N=gO/\vs=[.ptr 0 0,.slice (L.map c7.row) .cv,.int .i64 0,.int .i64 L.length,.int .i64 i]) ⟨rfl,rfl⟩ ?_ ?_;rotate_left
 . rintro vs N ⟨rfl,rfl⟩
   simp-implicitDefEqProofs (disch:=omega) only[go_sem,↓br 12,↓br 74,dg];first|refine b0 (hw) ?_|refine bV (hw) ?_
   simp-implicitDefEqProofs (disch:=omega) only[go_sem,GW]
 rintro i o vs N az hi bf ⟨rfl,rfl⟩;have sg:=dh o (dO az);obtain⟨f1,f2,aBA,f4⟩:=sg.tj;have aHf:∀x∈o.aZ,x.wf:=fun x ab=>(sg.aZ.tX x ab).wf;have ph:=O6 n o.aZ o.lc aK ok sg.len;have n8:(gL n o.aZ).2.length<=3:=by
  have U:=aK8 n o.aZ;have af:=sg.ln;have SX:(plain q).b1=q.b1:=rfl;omega
 have lX:=VT n aHf;rw[f1] at ph;generalize lW:(gL n o.aZ).2=rs at*;generalize KK rs=rc at*;simp only[Net.row] at ph;simp-implicitDefEqProofs (disch:=omega) only[go_sem,↓br 12,↓br 15,↓br 17,bf,lx,az,c7.row];first|refine b0 (ph) ?_|refine bV (ph) ?_
 simp-implicitDefEqProofs (disch:=omega) only[go_sem,↓br 19,lx];have mX:=Re n.cY rs rc Hd lX;have zI:=aBI n.cY rs rc (go n.cY rs).2.1 o.Ej Hd lX;rw[aM6 f2] at zI;rw[<-f4] at zI;have e2:=aKe tx (by omega) f2;simp only[Bj,f2,bd.row] at mX;simp only[ic,bd.row] at zI;rw[<-aBA] at mX zI e2;generalize(go n.cY rs).2.1=iF at*;generalize E8 (go n.cY rs)=Ej at*;first|refine b0 (mX) ?_|refine bV (mX) ?_
 simp-implicitDefEqProofs (disch:=omega) only[go_sem,↓br 21,lx,az,c7.row];first|refine b0 (zI) ?_|refine bV (zI) ?_
 simp-implicitDefEqProofs (disch:=omega) only[go_sem,↓br 26,az,c7.row];have bh:bQ av xJ [.agg n.cY.row] (fun v=>v=.tuple [tp n.cY,.int .i64 0]):=bQ.mono (Pa n.cY Hd) fun v h=>h.2 tx;obtain⟨aAw,Tg⟩:∃cs,tp n.cY=.cN cs:=⟨_,rfl⟩;rw[Tg] at bh;simp only[bd.row] at bh;simp-implicitDefEqProofs (disch:=omega) only[go_sem,↓br 28,lx];first|refine b0 (bh) ?_|refine bV (bh) ?_
 simp-implicitDefEqProofs (disch:=omega) only[go_sem,↓br 30,↓br 41];refine ek rs (fun x vs dP=>dP=N/\∃cs,f7 n.cY (rs.take x).reverse=.cN cs/\vs=[.ptr 0 0,.slice (L.map c7.row) .cv,.int .i64 0,.slice (rs.map a1.row) rc,.int .i64 o.cost.tj,.cN cs,.int .i64 0,.int .i64 x,.int .i64 L.length,.int .i64 i]) ⟨rfl,aAw,Tg,rfl⟩ ?_ ?_;rotate_left
 . rintro vs dP ⟨rfl,cs,eN,rfl⟩
   rw[g0] at eN;have mq:=Z_ n.cY rs.reverse (by rw[List.length_reverse];omega);rw[eN,List.reverse_reverse,e2] at mq;simp only[Am] at mq;have cr:dB .eql .ptr (.cN cs) .dm=some (.bool false):=rfl;simp-implicitDefEqProofs (disch:=omega) only[go_sem,↓br 32,dg];simp-implicitDefEqProofs (disch:=omega) only[go_sem,↓br 47,cr];simp-implicitDefEqProofs (disch:=omega) only[go_sem,↓br 49];first|refine b0 (mq) ?_|refine bV (mq) ?_
   simp-implicitDefEqProofs (disch:=omega) only[go_sem,↓br 54,↓br 66];exact c6 hi ⟨rfl,rfl⟩
 rintro x r vs dP al ab sx ⟨rfl,cs,eN,rfl⟩;have cr:dB .neq .ptr (.cN cs) .dm=some (.bool true):=rfl;simp-implicitDefEqProofs (disch:=omega) only[go_sem,↓br 32,sx,cr];have aHg:r.wf:=lX r (dO al);have vq:=O_ n.cY r Hd Hb aHg (rl:=(rs.take x).reverse) (fun y aD=>lX y (List.mem_of_mem_take (List.mem_reverse.1 aD))) (by rw[List.length_reverse,iw];omega);have T8:(rs.take (x+1)).reverse=r::(rs.take x).reverse:=by rw[hR,al];simp
 obtain⟨KU,Th⟩:∃KU,f7 n.cY (r::(rs.take x).reverse)=.cN KU:=⟨_,uZ ..⟩;rw[eN,Th] at vq;simp only[a1.row] at vq;simp-implicitDefEqProofs (disch:=omega) only[go_sem,↓br 34,al,a1.row];first|refine b0 (vq) ?_|refine bV (vq) ?_
 simp-implicitDefEqProofs (disch:=omega) only[go_sem,↓br 37];exact c6 ab ⟨rfl,KU,by rw[T8];exact Th,rfl⟩
end Go.aQ.C
namespace Go.aQ.C
open Go.aQ
def jF:Net where
 stops:=[⟨[65],0,false,0⟩,⟨[66],0,false,120⟩,⟨[67],0,false,0⟩]
 fK:=[⟨[82],0,false⟩]
 runs:=[⟨0,0,0,[116],0,false,false,[⟨0,100,100,true,false⟩,⟨1,200,210,true,true⟩,⟨2,500,500,false,true⟩],.full⟩,⟨0,0,0,[117],0,false,false,[⟨1,260,260,true,false⟩,⟨2,400,400,false,true⟩],.full⟩]
 b9:=[⟨0,1,1,0,false⟩]
 paths:=[]
 cY:=⟨[⟨[112],150,1,1,0,1⟩],.full,0,0,0⟩
 mB:=.full
 rc:=.full
 rQ:=.full
 lc:=.full
 ql:=.nil
def yt:Query:=⟨0,2,0,false,2,0,false,false,0,false⟩
theorem JV:jF.wf:=by
 have i64:∀n:Int,decide (-1000<=n/\n<=1000)=true->el n:=fun n h=>by
  have:=of_decide_eq_true h;unfold el;omega
 have rv:∀n:Nat,decide (n<=1000)=true->n<=maxLen:=fun n h=>by
  have:=of_decide_eq_true h;have hm:maxLen=9223372036854775807:=rfl;omega
 refine⟨⟨?_,rv _ rfl⟩,⟨?_,rv _ rfl⟩,⟨?_,rv _ rfl⟩,⟨?_,rv _ rfl⟩,⟨fun _ h=>(mF h).elim,rv _ rfl⟩,⟨?_,rv _ rfl,i64 _ rfl,i64 _ rfl,i64 _ rfl⟩⟩
 . intro s ak
   simp only[jF,jm,mF,or_false] at ak;rcases ak with rfl|rfl|rfl<;>exact⟨rv _ rfl,i64 _ rfl,i64 _ rfl⟩
 . intro s ak
   simp only[jF,jm,mF,or_false] at ak;rcases ak with rfl
   exact⟨rv _ rfl,i64 _ rfl⟩
 . intro s ak
   simp only[jF,jm,mF,or_false] at ak;rcases ak with rfl|rfl
   all_goals
    refine⟨i64 _ rfl,i64 _ rfl,i64 _ rfl,rv _ rfl,i64 _ rfl,fun c ar=>?_,rv _ rfl⟩;simp only[jm,mF,or_false] at ar;rcases ar with rfl|ar
    . exact⟨i64 _ rfl,i64 _ rfl,i64 _ rfl⟩
    rcases ar with rfl|ar
    . exact⟨i64 _ rfl,i64 _ rfl,i64 _ rfl⟩
    all_goals (rcases ar with rfl;exact⟨i64 _ rfl,i64 _ rfl,i64 _ rfl⟩)
 . intro s ak
   simp only[jF,jm,mF,or_false] at ak;rcases ak with rfl
   exact⟨i64 _ rfl,i64 _ rfl,i64 _ rfl,i64 _ rfl⟩
 . intro s ak
   simp only[jF,jm,mF,or_false] at ak;rcases ak with rfl
   exact⟨rv _ rfl,i64 _ rfl,i64 _ rfl,i64 _ rfl,i64 _ rfl,i64 _ rfl⟩
theorem aMG:EN jF.stops:=by
 refine⟨by decide,fun i s ak=>?_⟩;match i,ak with
 |0,ak=>cases ak;exact⟨by decide+kernel,by decide,by decide,fun k t ao=>absurd ao (fb _)⟩
 |1,ak=>
  cases ak;refine⟨by decide+kernel,by decide,by decide,fun k t ao aT=>?_⟩;obtain rfl:k=0:=by omega
  cases aT;decide
 |2,ak=>
  cases ak;refine⟨by decide+kernel,by decide,by decide,fun k t ao aT=>?_⟩;rcases(show k=0∨k=1 by omega) with rfl|rfl<;>cases aT<;>decide
 |i+3,ak=>cases ak
theorem aME:AS jF.fK:=by
 refine⟨by decide,fun i s ak=>?_⟩;match i,ak with
 |0,ak=>cases ak;exact⟨by decide+kernel,by decide,fun k t ao=>absurd ao (fb _)⟩
 |i+1,ak=>cases ak
theorem aMF:yR jF:=by
 refine⟨by decide,fun i r al=>?_⟩;match i,al with
 |0,al=>
  cases al;refine⟨by decide+kernel,by decide,by decide,by decide,by decide,⟨by decide,by decide,fun k c ar=>?_⟩,fun k t ao=>absurd ao (fb _)⟩;match k,ar with
  |0,ar=>cases ar;exact⟨by decide,by decide,fun p ao=>absurd ao (by omega)⟩
  |1,ar=>cases ar;exact⟨by decide,by decide,fun p _ ax=>by cases ax;decide⟩
  |2,ar=>cases ar;exact⟨by decide,by decide,fun p _ ax=>by cases ax;decide⟩
  |k+3,ar=>cases ar
 |1,al=>
  cases al;refine⟨by decide+kernel,by decide,by decide,by decide,by decide,⟨by decide,by decide,fun k c ar=>?_⟩,fun k t ao aT=>?_⟩
  . match k,ar with
    |0,ar=>cases ar;exact⟨by decide,by decide,fun p ao=>absurd ao (by omega)⟩
    |1,ar=>cases ar;exact⟨by decide,by decide,fun p _ ax=>by cases ax;decide⟩
    |k+2,ar=>cases ar
  . obtain rfl:k=0:=by omega
    cases aT;decide
 |i+2,al=>cases al
theorem aMD:yM jF:=by
 refine⟨by decide,fun i l ag=>?_⟩;match i,ag with
 |0,ag=>
  cases ag;refine⟨by decide,by decide,by decide,fun a b bk aj=>?_,fun h=>(by cases h),fun h=>(by cases h),fun k t ao=>absurd ao (fb _)⟩;cases bk;cases aj;refine⟨by decide,by decide,fun c d ar aw=>?_,fun h=>by cases h⟩;cases ar;cases aw;rfl
 |i+1,ag=>cases ag
theorem aMC:uz jF.paths jF.stops.length:=by
 have aw:∀f,oK jF.paths jF.stops.length f fun _ _=>eE:=fun f=>
  ⟨fun p ax=>(mF ax).elim,fun i j m _ _ _=>by show eE<=eE+eE;decide,fun D en _ i j hi ap=>by
    have:=en i hi;have:=en j ap;show D j -D i<=eE;omega,fun i j _ _=>by show 0<eE/\eE<=eE;decide⟩;exact⟨_,_,aw false,aw true,by decide+kernel⟩
theorem JU:g2 jF:=by
 refine⟨⟨aMG,aME,aMF,aMD,fun i p ax=>(by cases ax),aMC,by decide+kernel⟩,by decide,by decide,by decide,by decide,fun r al=>?_⟩;simp only[jF,jm,mF,or_false] at al;rcases al with rfl|rfl<;>decide
theorem W1:qK jF.stops.length yt:=by
 refine⟨by decide,by decide,by decide,by decide,by decide,by decide,by decide⟩
end Go.aQ.C
namespace Go.aQ.C
open Go.aQ
def aFL:Hints:=⟨[(0,[]),(1,[1]),(2,[1,2,3]),(3,[1,2,3,4,5]),(4,[2,3,4,5,6,7]),(5,[0])],[],[(2,[9998])]⟩
def aFH:Hints:=⟨[(0,[2,3,4]),(1,[4,6,7]),(2,[4,6,7,15]),(3,[4,5]),(4,[4,6,20]),(5,[4,5]),(6,[4,5])],[],[]⟩
def aFl:Hints:=⟨[(0,[2,3]),(1,[7,8]),(2,[7,8,9]),(3,[8,9,22,23,24]),(4,[8,9,22,23,24,25]),(5,[8,9,11,22,23,24]),(6,[8,9,11,12,22,23,24]),(7,[8,9,12,22,23,24,28,29,30]),(8,[8,9,12,22,23,24,28,29,30,31]),(9,[8,9,12,14,22,23,24,28,29,30]),(10,[8,9,12,22,23,24,28,29,30]),(11,[8,9,12,22,23,24,28,29,30]),(12,[8,9,22,23,24]),(13,[8,9,22,23,24]),(14,[4,5])],[(4,[8,9,22,23,24]),(8,[8,9,12,22,23,24,28,29,30])],[(12,[1])]⟩
def aFx:Hints:=⟨[(0,[2,3]),(1,[6,7]),(2,[6,7,18]),(3,[4,5]),(4,[6,8]),(5,[8,23,24,25]),(6,[8,23,24,25,26]),(7,[8,10,23,24,25]),(8,[8,23,24,25]),(9,[8,23,24,25]),(10,[4,5])],[(6,[8,23,24,25])],[]⟩
def aFM:Hints:=⟨[(0,[0]),(1,[0])],[],[]⟩
def aFo:Hints:=⟨[(0,[2,3]),(1,[2,3,7]),(2,[2,3,7,21]),(3,[4,5,6]),(4,[3,8]),(5,[3,8,11]),(6,[3,8,11,35]),(7,[4,5,6]),(8,[3,8,12]),(9,[3,8,12,49,50,51]),(10,[3,8,12,49,50,51,52]),(11,[3,8,12,13,14,49,50,51]),(12,[3,8,12,49,50,51]),(13,[3,8,12,49,50,51]),(14,[3,8,12,77,78]),(15,[3,8,12,77,78,79]),(16,[3,8,12,77,78]),(17,[3,8,12,77,78]),(18,[3,8,12,15]),(19,[3,8,12,15,94]),(20,[3,12,15]),(21,[3,12]),(22,[3,12]),(23,[3,12,16]),(24,[12,16,123,124]),(25,[12,16,123,124,125]),(26,[12,16,123,124]),(27,[12,16,123,124]),(28,[12,16,123,124]),(29,[4,5,6])],[(10,[3,8,12,49,50,51]),(15,[3,8,12,77,78]),(25,[12,16,123,124])],[(8,[9998,5008]),(12,[9998]),(23,[3]),(27,[4])]⟩
def aFz:Hints:=⟨[(0,[2,3]),(1,[2,3,6]),(2,[2,3,6,20]),(3,[4,5]),(4,[3,7]),(5,[7,9]),(6,[9,10,11]),(7,[9,10,11,37]),(8,[4,5]),(9,[9,10,12]),(10,[9,10,12,42]),(11,[9,10,12,13]),(12,[9,10,12,13]),(13,[9,10,12,13,56,57,58]),(14,[9,10,12,13,56,57,58,59]),(15,[9,10,12,13,15,56,57,58]),(16,[9,10,12,13,56,57,58]),(17,[9,10,12,13,56,57,58]),(18,[9,10,12,13,69]),(19,[9,10,12]),(20,[4,5])],[(9,[9,10]),(10,[9,10,12]),(14,[9,10,12,13,56,57,58])],[]⟩
def aFn:Hints:=⟨[(0,[2,3]),(1,[3,5]),(2,[3,5,10]),(3,[4]),(4,[13]),(5,[4]),(6,[4])],[],[]⟩
def aFe:Hints:=⟨[(0,[1]),(1,[1,12]),(2,[2,3]),(3,[1,4]),(4,[1,4,14,15,16]),(5,[1,4,14,15,16,17]),(6,[1,4,6,14,15,16]),(7,[1,4,6,7,14,15,16]),(8,[1,4,6,7,14,15,16,20,21,22]),(9,[1,4,6,7,14,15,16,20,21,22,23]),(10,[1,4,6,7,8,9,14,15,16,20,21,22]),(11,[1,4,6,7,8,9,14,15,16,20,21,22,42]),(12,[1,4,6,14,15,16]),(13,[1,4,6,7,14,15,16]),(14,[1,4,6,7,14,15,16,20,21,22]),(15,[1,4,6,14,15,16,52]),(16,[1,4,14,15,16]),(17,[1,4,14,15,16]),(18,[2,3])],[(5,[1,4,14,15,16]),(9,[1,4,6,7,14,15,16,20,21,22])],[]⟩
def aFw:Hints:=⟨[(0,[0]),(1,[3]),(2,[3,8,9]),(3,[3,8,9,10]),(4,[3,4,8,9]),(5,[3,8,9]),(6,[3,8,9]),(7,[2])],[(3,[3,8,9])],[]⟩
def aFs:Hints:=⟨[(0,[2,3,4,10]),(1,[2,3,4,10,29]),(2,[3,4,10]),(3,[3,4,10,50]),(4,[])],[],[]⟩
def aFv:Hints:=⟨[(0,[0,1,2,3,15,16,17]),(1,[0,1,2,3,15,16,17,18]),(2,[0,1,2,3,9,15,16,17]),(3,[0,1,2,3,9,10,15,16,17]),(4,[0,1,2,3,9,10,15,16,17,32]),(5,[0,1,2,3,15,16,17]),(6,[0,1,2,3,15,16,17])],[(1,[0,1,2,3,15,16,17])],[]⟩
def aFt:Hints:=⟨[(0,[0,1]),(1,[0,1]),(2,[0,1,4]),(3,[0,1,4]),(4,[0,1,4]),(5,[0,1,4]),(6,[0,1,4,48,49,50]),(7,[0,1,4,48,49,50,51]),(8,[0,1,4,5,6,48,49,50]),(9,[0,1,4,5,6,48,49,50,60]),(10,[0,1,4,5,6,48,49,50]),(11,[0,1,4,5,48,49,50,69,70,71]),(12,[0,1,4,5,48,49,50,69,70,71,72]),(13,[0,1,4,5,7,8,48,49,50,69,70,71]),(14,[0,1,4,5,7,8,9,48,49,50,69,70,71]),(15,[0,1,4,5,7,9,48,49,50,69,70,71,105]),(16,[0,1,4,5,48,49,50,69,70,71]),(17,[0,1,4,5,48,49,50,69,70,71]),(18,[0,1,4,48,49,50]),(19,[0,1,120]),(20,[0,1,10]),(21,[0,1,10]),(22,[0,1]),(23,[0,1,153,154,155]),(24,[0,1,153,154,155,156]),(25,[0,1,11,12,153,154,155]),(26,[0,1,11,12,153,154,155,180]),(27,[0,1,11,12,153,154,155]),(28,[0,1,153,154,155]),(29,[0,1,153,154,155])],[(7,[0,1,4,48,49,50]),(12,[0,1,4,5,48,49,50,69,70,71]),(19,[0,1]),(24,[0,1,153,154,155])],[]⟩
def aFy:Hints:=⟨[(0,[2,3]),(1,[3,5]),(2,[3,5,10]),(3,[4]),(4,[13]),(5,[4]),(6,[4])],[],[]⟩
def aFG:Hints:=⟨[(0,[2,3]),(1,[2,3,5]),(2,[2,3,5,19,20]),(3,[2,3,5,19,20,21]),(4,[2,3,5,19,20]),(5,[2,3,5,19,20]),(6,[2,3,5,35,36]),(7,[2,3,5,35,36,37]),(8,[2,3,5,35,36]),(9,[2,3,5,35,36]),(10,[2,3,5,50,51,52]),(11,[2,3,5,50,51,52,53]),(12,[2,3,5,6,7,50,51,52]),(13,[2,3,5,50,51,52]),(14,[2,3,5,50,51,52]),(15,[2,3,5,8]),(16,[2,3,5,8,79]),(17,[3,5,8]),(18,[3,5,8]),(19,[5]),(20,[4])],[(3,[2,3,5,19,20]),(7,[2,3,5,35,36]),(11,[2,3,5,50,51,52])],[(1,[5005])]⟩
def aFa:Hints:=⟨[(0,[1]),(1,[1,6]),(2,[1,20]),(3,[2,3]),(4,[1,7]),(5,[7,22,23,24]),(6,[7,22,23,24,25]),(7,[7,8,9,22,23,24]),(8,[7,8,9,22,23,24,30]),(9,[7,8,9,22,23,24,34,35]),(10,[7,8,9,22,23,24,34,35,36]),(11,[7,8,9,10,22,23,24,34,35]),(12,[7,8,9,10,11,12,22,23,24,34,35]),(13,[7,8,9,22,23,24,34,35]),(14,[7,8,9,22,23,24,34,35]),(15,[7,22,23,24]),(16,[7]),(17,[2,3])],[(5,[1,7]),(6,[7,22,23,24]),(10,[7,8,9,22,23,24,34,35])],[]⟩
def aFb:Hints:=⟨[(0,[2,3]),(1,[4])],[],[]⟩
def aFE:Hints:=⟨[(0,[0,3]),(1,[0,3,4]),(2,[0,3,4,5]),(3,[0,3,4,5,45]),(4,[0,3,4]),(5,[0,3,4,6]),(6,[0,3,4,6,72]),(7,[0,3,4,6,7]),(8,[0,3,4,6,7,93]),(9,[0,3,7,8]),(10,[0,3,7,8,124]),(11,[0,3,7,8,9]),(12,[0,3,7,8,9]),(13,[0,3,7,8,9,165]),(14,[0,3,7,8]),(15,[0,3,7,8]),(16,[])],[],[]⟩
def aFk:Hints:=⟨[(0,[1]),(1,[5]),(2,[2])],[],[]⟩
def aFi:Hints:=⟨[(0,[1]),(1,[1,3]),(2,[1,3,9,10,11]),(3,[1,3,9,10,11,12]),(4,[1,3,4,5,9,10,11]),(5,[1,3,4,5,9,10,11,17]),(6,[1,3,4,6,9,10,11]),(7,[1,3,4,7,9,10,11]),(8,[1,3,4,7,9,10,11]),(9,[1,3,4,7,9,10,11]),(10,[1,3,9,10,11]),(11,[1,3,9,10,11]),(12,[2])],[(3,[1,3,9,10,11])],[]⟩
def aFh:Hints:=⟨[(0,[2,3]),(1,[2,3,28]),(2,[4]),(3,[3,30,31,32]),(4,[3,30,31,32,33]),(5,[3,5,6,30,31,32]),(6,[3,6,7,30,31,32]),(7,[3,30,31,32,59]),(8,[4]),(9,[3,30,31,32]),(10,[4])],[(4,[3,30,31,32])],[]⟩
def aFp:Hints:=⟨[(0,[0,2,4]),(1,[0]),(2,[6])],[],[]⟩
def aFq:Hints:=⟨[(0,[0,1,5]),(1,[0,1,5,27]),(2,[0,1]),(3,[])],[],[]⟩
def aFm:Hints:=⟨[(0,[1,2]),(1,[4])],[],[]⟩
def aFu:Hints:=⟨[(0,[0,1,4]),(1,[0,1,4,5]),(2,[0,1,4,5,6]),(3,[0,1,4,5,6,7]),(4,[0,1,4,5,6,7,38]),(5,[0,1,4,5,6,7]),(6,[0,1,4,5,6,7,8]),(7,[0,1,4,5,6,7,8,58]),(8,[0,1,4,5,6,7,8,9]),(9,[0,1,4,5,6,7,8,9]),(10,[0,1,4,5,6,7,8,9,10]),(11,[0,1,4,5,6,7,8,9,10,109]),(12,[0,1,4,5,6,7])],[(3,[0,1,4,5,6]),(4,[0,1,4,5,6,7])],[]⟩
def aFF:Hints:=⟨[(0,[0,1,2,3,15,16,17]),(1,[0,1,2,3,15,16,17,18]),(2,[0,1,2,3,9,15,16,17]),(3,[0,1,2,3,9,15,16,17,31]),(4,[0,1,2,3,9,10,15,16,17]),(5,[0,1,2,3,15,16,17]),(6,[0,1,2,3,15,16,17])],[(1,[0,1,2,3,15,16,17])],[]⟩
def aFD:Hints:=⟨[(0,[0,2,3,4,10]),(1,[0,2,3,4,10,29]),(2,[0,3,4,10]),(3,[0,3,4,10]),(4,[0,3,4,10,53]),(5,[0]),(6,[])],[],[]⟩
def aFI:Hints:=⟨[(0,[0,1,4]),(1,[])],[],[]⟩
def aE_:Hints:=⟨[(0,[2,3]),(1,[27,28]),(2,[27,28,29]),(3,[6,27,28]),(4,[6,27,28,35]),(5,[4]),(6,[27,28,40]),(7,[4]),(8,[27,28]),(9,[4])],[(2,[27,28])],[]⟩
def aFd:Hints:=⟨[(0,[0,1]),(1,[1,5,6]),(2,[1,5,6,11]),(3,[1,5,6,7]),(4,[1,5,6,7,18]),(5,[1,5,6]),(6,[1,5,6]),(7,[4])],[(2,[1,5,6])],[]⟩
def aFc:Hints:=⟨[(0,[0,1,2]),(1,[4])],[],[]⟩
def aFB:Hints:=⟨[(0,[0,1,5]),(1,[0,1,5,6]),(2,[0,5,6,37]),(3,[0]),(4,[])],[],[]⟩
def aFA:Hints:=⟨[(0,[0,2,4]),(1,[0]),(2,[6])],[],[]⟩
def aFC:Hints:=⟨[(0,[0,1,2,3,4,10]),(1,[0,2,3,4,10,34,35,36]),(2,[0,2,3,4,10,34,35,36,37]),(3,[0,2,3,4,10,12,34,35,36]),(4,[0,2,3,4,10,13,34,35,36]),(5,[0,2,3,4,10,13,14,34,35,36]),(6,[0,2,3,4,10,13,34,35,36,82]),(7,[0,2,3,4,10,34,35,36]),(8,[0,2,3,4,10,34,35,36])],[(2,[0,2,3,4,10,34,35,36])],[]⟩
def aFg:Hints:=⟨[(0,[0,1]),(1,[0,1,5,6]),(2,[0,1,5,6,12]),(3,[0,1,5,6,7]),(4,[0,1,5,6,7,24]),(5,[0,1,5,6]),(6,[0,1,5,6]),(7,[4])],[(2,[0,1,5,6])],[]⟩
def aFj:Hints:=⟨[(0,[0,1,2]),(1,[4])],[],[]⟩
def aFf:Hints:=⟨[(0,[2,3]),(1,[2,3]),(2,[4])],[],[]⟩
def aFr:Hints:=⟨[(0,[0,1,2,3,4,10]),(1,[0,2,3,4,10,34,35,36]),(2,[0,2,3,4,10,34,35,36,37]),(3,[0,2,3,4,10,12,34,35,36]),(4,[0,2,3,4,10,13,34,35,36]),(5,[0,2,3,4,10,13,14,34,35,36]),(6,[0,2,3,4,10,13,14,34,35,36,62]),(7,[0,2,3,4,10,13,14,34,35,36,73]),(8,[0,2,3,4,10,34,35,36]),(9,[0,2,3,4,10,13,34,35,36,84]),(10,[0,2,3,4,10,34,35,36]),(11,[0,2,3,4,10,34,35,36])],[(2,[0,2,3,4,10,34,35,36])],[]⟩
def aFK:Hints:=⟨[(0,[0,1,2,3,4,10]),(1,[0,1,2,3,4,10,11]),(2,[0,1,2,3,4,10,11,12]),(3,[0,1,2,3,4,10,11,12,25]),(4,[]),(5,[0,1,2,3,4,10,11,12,32]),(6,[]),(7,[0,1,2,3,4,10,11,12,39]),(8,[0,1,2,3,4,10,11,12]),(9,[0,1,2,3,4,10,11,12]),(10,[0,1,2,3,4,10,11,12,13,14]),(11,[0,1,2,3,4,10,11,12,13,14,56]),(12,[0,1,2,3,4,10,11,12,13]),(13,[0,1,2,3,4,10,11,12,13]),(14,[0,1,2,3,4,10,11,12,13,14]),(15,[0,1,2,3,4,10,11,12,13,75]),(16,[0,1,2,3,4,10,11,12,13,80]),(17,[0,1,2,3,4,10,11,12,13,97]),(18,[0,2,3,4,10,11,15]),(19,[0,1,2,3,4,10,11]),(20,[0,1,2,3,4,12,16,17]),(21,[0,1,2,3,4,11,12,16]),(22,[0,1,2,3,4,11,12,16,18,19]),(23,[0,1,2,3,4,11,16,18,19,20]),(24,[0,1,2,3,4,11,16,18,19,20,125]),(25,[0,1,2,3,4,10,11,16]),(26,[0,2,3,4,10,11,16]),(27,[0,1,2,3,4,10,11]),(28,[0,1,2,3,4,10,11,16]),(29,[0,1,3,4,10,11,16]),(30,[0,1,2,3,4,10,11])],[(2,[0,1,2,3,4,10,11])],[]⟩
def aFJ:Hints:=⟨[(0,[0,1,2,3,8]),(1,[0,1,2,3,8,14]),(2,[0,1,2,3,8]),(3,[0,1,2,3,8,9]),(4,[0,1,2,3,8,9,34]),(5,[0,1,2,3,8,9]),(6,[0,1,2,3,8,9])],[(1,[0,1,2,3,8]),(4,[0,1,2,3,8,9])],[]⟩
def aFQ:List (Nat×Hints×Bool):=[(10,aFH,false)]
def WL:List (Nat×bu×Bool):=[(15,Ci,false),(16,BU,false),(17,Bu,false),(19,BC,false),(20,BE,false),(33,BR,true),(34,Cj,false),(35,Cr,true),(36,Cl,false),(38,BV,true),(39,BZ,false),(40,Bo,false),(41,BY,false),(42,BA,false),(43,Bw,false),(44,Bv,false),(46,Cd,false),(47,BF,false),(48,Ce,false),(49,BG,false),(71,tn,true),(72,w2,false),(73,BN,false),(74,Cv,true),(75,BW,false),(76,Cb,false),(84,Br,false),(85,Bt,false),(86,Bx,false),(87,Bz,false),(88,By,false),(89,Ch,false),(90,BS,false),(91,Cg,false),(92,Cf,false),(93,Bq,false),(94,Bp,false),(95,Bs,false),(96,BL,false),(136,Ck,false),(137,w3,true),(138,BM,false),(139,BQ,false),(140,BP,false),(141,Co,true),(142,Cp,true),(143,Cn,true),(144,Cw,true),(145,tm,true),(151,BB,false),(165,BD,false),(166,BO,false),(167,Cs,true),(168,Cx,false),(169,BT,false),(170,Cq,false),(171,Cm,true),(172,B_,false),(173,Ca,false),(174,B9,false),(197,BK,false),(198,BI,false),(199,BH,false),(200,BJ,false),(201,Cu,true),(202,BX,false),(203,Cc,false),(216,B1,false),(217,Ct,false)]
theorem aMv:pH av (l6 WL):=dM Sr<|dM R8<|dM RF<|dM RN<|dM RP<|dM R4<|dM Sq<|dM SA<|dM St<|dM R7<|dM Sb<|dM Rz<|dM Sa<|dM RL<|dM RI<|dM RG<|dM Sl<|dM RQ<|dM Sn<|dM RR<|dM Su<|dM Ln<|dM RY<|dM SE<|dM R9<|dM Si<|dM RC<|dM RE<|dM RH<|dM RK<|dM RJ<|dM Sp<|dM R5<|dM So<|dM Sm<|dM RB<|dM RA<|dM RD<|dM RW<|dM Ss<|dM Lo<|dM RX<|dM R1<|dM R0<|dM Sx<|dM Sy<|dM Sv<|dM SF<|dM Sk<|dM RM<|dM RO<|dM RZ<|dM SB<|dM SG<|dM R6<|dM Sz<|dM Sw<|dM Sg<|dM Sh<|dM Sf<|dM RV<|dM RT<|dM RS<|dM RU<|dM SD<|dM R_<|dM Sj<|dM Se<|dM SC<|JM
def aFR:List (Nat×Hints×Bool):=[(11,aFl,false),(28,aFo,true),(56,aFn,false),(57,aFe,false),(58,aFw,true),(59,aFs,true),(60,aFv,true),(61,aFt,true),(107,aFk,false),(108,aFi,false),(109,aFh,false),(110,aFp,true),(111,aFq,true),(112,aFm,false),(113,aFu,true),(160,aFg,false),(161,aFj,false),(162,aFf,false),(163,aFr,true)]
def WM:List (Nat×bu×Bool):=[]
theorem aMw:pH av (l6 WM):=JM
def rb:List (Nat×Hints×Bool):=[(12,aFx,false),(29,aFz,true),(62,aFy,false),(63,aFG,true),(64,aFa,false),(65,aFb,false),(66,aFE,true),(114,aFF,true),(115,aFD,true),(116,aFI,false),(117,aE_,false),(118,aFd,false),(119,aFc,false),(120,aFB,true),(121,aFA,true),(122,aFC,true),(164,aFK,false),(189,aFJ,false)]
def WN:List (Nat×bu×Bool):=[(153,zd,false),(186,Lp,false),(187,B0,false)]
theorem aMx:pH av (l6 WN):=dM Sd<|dM aCG<|dM Sc<|JM
def aFS:List (Nat×Hints×Bool):=[(9,aFL,false),(27,aFM,false)]
def WO:List (Nat×bu×Bool):=[]
theorem aMy:pH av (l6 WO):=JM
end Go.aQ.C
namespace Go.aQ.C
open Go.aQ
def t9:V:=.agg jF.row
def vV:V:=.agg yt.row
def Pw:V:=.agg (gF jF yt).row
def DM:List (Nat×List V×V):=[(37,[t9],.tuple [.int .i64 0,.int .i64 0,.int .i64 0]),(37,[Pw],.tuple [.int .i64 0,.int .i64 0,.int .i64 0]),(31,[t9,vV],.tuple [Pw,.int .i64 0]),(32,[t9,vV],.int .i64 0)]
def od(n:Int):List V:=[.int .i64 n]
def Rk:V:=.tuple [.agg [.slice [[.bool true,.int .i64 0,.int .i64 0,.int .i64 1,.int .i64 0,.int .i64 1,.int .i64 100,.int .i64 200,.bool false],[.bool true,.int .i64 1,.int .i64 0,.int .i64 1,.int .i64 1,.int .i64 2,.int .i64 260,.int .i64 400,.bool false]] .cv,
 .int .i64 100,.int .i64 400,.int .i64 2,.int .i64 300,.int .i64 0,.slice [[.int .i64 0,.int .i64 0,.int .i64 0,.int .i64 150],[.int .i64 0,.int .i64 1,.int .i64 1,.int .i64 150]] .cv],.int .i64 0]
def VY:V:=.tuple [.slice [[.slice [od 0,od (-1),od (-1)] .cv],[.slice [od 0,od 200,od 500] .cv],[.slice [od 0,od 200,od 400] .cv]] .cv,.int .i64 0]
def Wa:V:=.tuple [.slice [od 0,od 200,od 400] .cv,.int .i64 0]
theorem aBK:wg av aFQ WL (fun t=>qY DM [] (l6 t) 3000 0 10 [t9,vV] []) none=some (Rk,[]):=by kernel_rfl
theorem aLb:wg av aFR WM (fun t=>qY DM [(28,58)] (l6 t) 3000 0 11 [t9,vV] []) none=some (VY,[]):=by kernel_rfl
theorem aLw:wg av rb WN (fun t=>qY DM [] (l6 t) 3000 0 12 [t9,vV] []) none=some (Wa,[]):=by kernel_rfl
def M1:List (Nat×List V×V):=[(10,[t9,vV],Rk),(11,[t9,vV],VY),(12,[t9,vV],Wa)]
theorem aa3:wg av aFS WO (fun t=>qY M1 [] (l6 t) 60 0 9 [] []) none=some (.bool true,[]):=by kernel_rfl
theorem M0:AO av DM:=by
 have kq:=Kp jF yt JU;intro f xs v h;simp only[DM,jm,mF,or_false,dX] at h;rcases h with⟨rfl,rfl,rfl⟩|⟨rfl,rfl,rfl⟩|⟨rfl,rfl,rfl⟩|⟨rfl,rfl,rfl⟩
 . exact⟨rfl,Jg jF JV JU⟩
 . exact⟨rfl,Jg _ (PC jF yt JV) kq⟩
 . exact⟨rfl,OK jF yt JV JU W1⟩
 . exact⟨rfl,ON jF yt JV JU W1⟩
theorem Fl{ms:List (Nat×List V×V)}(ao:AO av ms){l:List (Nat×Hints×Bool)}{WC:List (Nat×bu×Bool)}(aG5:pH av (l6 WC)){pops:List (Nat×Nat)}{n f:Nat}{args:List V}{v:V}(hu:v.under 0=true)(h:wg av l WC (fun t=>qY ms pops (l6 t) n 0 f args []) none=some (v,[])):bQ av f args (fun x=>x=v):=by
 obtain⟨t,aT,he⟩:=Xj aG5 h (by simp);exact aJX ao aT n he hu
theorem aHV:AO av M1:=by
 intro f xs v h;simp only[M1,jm,mF,or_false,dX] at h;rcases h with⟨rfl,rfl,rfl⟩|⟨rfl,rfl,rfl⟩|⟨rfl,rfl,rfl⟩
 . exact⟨rfl,Fl M0 aMv rfl aBK⟩
 . exact⟨rfl,Fl M0 aMw rfl aLb⟩
 . exact⟨rfl,Fl M0 aMx rfl aLw⟩
theorem aa4:bQ av C.IZ [] (fun v=>v=.bool true):=Fl aHV aMy rfl aa3
end Go.aQ.C
namespace Go.aQ.C
open Go.aQ
def QJ:List gt:=[.int .i64,.int .i64,.int .i64,.bool,.bool]
theorem aKA{vs:List V}(h:mM QJ vs):∃x:cd,vs=x.row/\x.wf:=by
 obtain⟨_,_,rfl,U,h⟩:=eM h;obtain⟨_,_,rfl,af,h⟩:=eM h;obtain⟨_,_,rfl,ay,h⟩:=eM h;obtain⟨_,_,rfl,be,h⟩:=eM h;obtain⟨_,_,rfl,bv,h⟩:=eM h;cases tw h;obtain⟨bU,rfl,aW⟩:=hE U;obtain⟨b4,rfl,a9⟩:=hE af;obtain⟨cG,rfl,bN⟩:=hE ay;obtain⟨dl,rfl⟩:=pT be;obtain⟨eY,rfl⟩:=pT bv;exact⟨⟨bU,b4,cG,dl,eY⟩,rfl,aW,a9,bN⟩
def QG:List gt:=[.str,.int .i64,.int .i64,.int .i64,.int .i64,.int .i64]
theorem aKw{vs:List V}(h:mM QG vs):∃x:dk,vs=x.row/\x.wf:=by
 obtain⟨_,_,rfl,U,h⟩:=eM h;obtain⟨_,_,rfl,af,h⟩:=eM h;obtain⟨_,_,rfl,ay,h⟩:=eM h;obtain⟨_,_,rfl,be,h⟩:=eM h;obtain⟨_,_,rfl,bv,h⟩:=eM h;obtain⟨_,_,rfl,b7,h⟩:=eM h;cases tw h;obtain⟨bU,rfl,aW⟩:=G0 U;obtain⟨b4,rfl,a9⟩:=hE af;obtain⟨cG,rfl,bN⟩:=hE ay;obtain⟨dl,rfl,c5⟩:=hE be;obtain⟨eY,rfl,er⟩:=hE bv;obtain⟨fQ,rfl,eT⟩:=hE b7;exact⟨⟨bU,b4,cG,dl,eY,fQ⟩,rfl,aW,a9,bN,c5,er,eT⟩
def QK:List gt:=[.str,.int .i64,.bool,.int .i64]
theorem aKB{vs:List V}(h:mM QK vs):∃x:Stop,vs=x.row/\x.wf:=by
 obtain⟨_,_,rfl,U,h⟩:=eM h;obtain⟨_,_,rfl,af,h⟩:=eM h;obtain⟨_,_,rfl,ay,h⟩:=eM h;obtain⟨_,_,rfl,be,h⟩:=eM h;cases tw h;obtain⟨bU,rfl,aW⟩:=G0 U;obtain⟨b4,rfl,a9⟩:=hE af;obtain⟨cG,rfl⟩:=pT ay;obtain⟨dl,rfl,c5⟩:=hE be;exact⟨⟨bU,b4,cG,dl⟩,rfl,aW,a9,c5⟩
def QH:List gt:=[.str,.int .i64,.bool]
theorem aKy{vs:List V}(h:mM QH vs):∃x:fi,vs=x.row/\x.wf:=by
 obtain⟨_,_,rfl,U,h⟩:=eM h;obtain⟨_,_,rfl,af,h⟩:=eM h;obtain⟨_,_,rfl,ay,h⟩:=eM h;cases tw h;obtain⟨bU,rfl,aW⟩:=G0 U;obtain⟨b4,rfl,a9⟩:=hE af;obtain⟨cG,rfl⟩:=pT ay;exact⟨⟨bU,b4,cG⟩,rfl,aW,a9⟩
def QI:List gt:=[.int .i64,.int .i64,.int .i64,.str,.int .i64,.bool,.bool,.slice QJ]
theorem aKz{vs:List V}(h:mM QI vs):∃x:bS,vs=x.row/\x.wf:=by
 obtain⟨_,_,rfl,U,h⟩:=eM h;obtain⟨_,_,rfl,af,h⟩:=eM h;obtain⟨_,_,rfl,ay,h⟩:=eM h;obtain⟨_,_,rfl,be,h⟩:=eM h;obtain⟨_,_,rfl,bv,h⟩:=eM h;obtain⟨_,_,rfl,b7,h⟩:=eM h;obtain⟨_,_,rfl,dQ,h⟩:=eM h;obtain⟨_,_,rfl,ch,h⟩:=eM h;cases tw h;obtain⟨bU,rfl,aW⟩:=hE U;obtain⟨b4,rfl,a9⟩:=hE af;obtain⟨cG,rfl,bN⟩:=hE ay;obtain⟨dl,rfl,c5⟩:=G0 be;obtain⟨eY,rfl,er⟩:=hE bv;obtain⟨fQ,rfl⟩:=pT b7;obtain⟨jq,rfl⟩:=pT dQ;obtain⟨nZ,axx,rfl,lu,aHZ,_⟩:=xc (fun vs h=>aKA h) ch;exact⟨⟨bU,b4,cG,dl,eY,fQ,jq,nZ,axx⟩,rfl,aW,a9,bN,c5,er,lu,aHZ⟩
def QE:List gt:=[.int .i64,.int .i64,.int .i64,.int .i64,.bool]
theorem aKt{vs:List V}(h:mM QE vs):∃x:dA,vs=x.row/\x.wf:=by
 obtain⟨_,_,rfl,U,h⟩:=eM h;obtain⟨_,_,rfl,af,h⟩:=eM h;obtain⟨_,_,rfl,ay,h⟩:=eM h;obtain⟨_,_,rfl,be,h⟩:=eM h;obtain⟨_,_,rfl,bv,h⟩:=eM h;cases tw h;obtain⟨bU,rfl,aW⟩:=hE U;obtain⟨b4,rfl,a9⟩:=hE af;obtain⟨cG,rfl,bN⟩:=hE ay;obtain⟨dl,rfl,c5⟩:=hE be;obtain⟨eY,rfl⟩:=pT bv;exact⟨⟨bU,b4,cG,dl,eY⟩,rfl,aW,a9,bN,c5⟩
def QF:List gt:=[.int .i64,.int .i64,.int .i64,.bool]
theorem aKv{vs:List V}(h:mM QF vs):∃x:Path,vs=x.row/\x.wf:=by
 obtain⟨_,_,rfl,U,h⟩:=eM h;obtain⟨_,_,rfl,af,h⟩:=eM h;obtain⟨_,_,rfl,ay,h⟩:=eM h;obtain⟨_,_,rfl,be,h⟩:=eM h;cases tw h;obtain⟨bU,rfl,aW⟩:=hE U;obtain⟨b4,rfl,a9⟩:=hE af;obtain⟨cG,rfl,bN⟩:=hE ay;obtain⟨dl,rfl⟩:=pT be;exact⟨⟨bU,b4,cG,dl⟩,rfl,aW,a9,bN⟩
def KV:List gt:=[.slice QK,.slice QH,.slice QI,.slice QE,.slice QF,.slice QG,.int .i64,.int .i64,.int .i64]
theorem aKu{vs:List V}(h:mM KV vs):∃n:Net,vs=n.row/\n.wf:=by
 obtain⟨_,_,rfl,U,h⟩:=eM h;obtain⟨_,_,rfl,af,h⟩:=eM h;obtain⟨_,_,rfl,ay,h⟩:=eM h;obtain⟨_,_,rfl,be,h⟩:=eM h;obtain⟨_,_,rfl,bv,h⟩:=eM h;obtain⟨_,_,rfl,b7,h⟩:=eM h;obtain⟨_,_,rfl,dQ,h⟩:=eM h;obtain⟨_,_,rfl,ch,h⟩:=eM h;obtain⟨_,_,rfl,eL,h⟩:=eM h;cases tw h;obtain⟨bU,eS,rfl,aW,cU,_⟩:=xc (fun vs h=>aKB h) U;obtain⟨b4,gQ,rfl,a9,eW,_⟩:=xc (fun vs h=>aKy h) af;obtain⟨cG,qU,rfl,bN,mv,_⟩:=xc (fun vs h=>aKz h) ay;obtain⟨dl,wG,rfl,c5,DO,_⟩:=xc (fun vs h=>aKt h) be;obtain⟨eY,wH,rfl,er,aHX,_⟩:=xc (fun vs h=>aKv h) bv;obtain⟨fQ,avu,rfl,eT,aHY,_⟩:=xc (fun vs h=>aKw h) b7;obtain⟨jq,rfl,iy⟩:=hE dQ;obtain⟨nZ,rfl,lu⟩:=hE ch;obtain⟨Km,rfl,ts⟩:=hE eL;exact⟨⟨bU,b4,cG,dl,eY,⟨fQ,avu,jq,nZ,Km⟩,eS,gQ,qU,wG,wH⟩,rfl,⟨⟨aW,cU⟩,⟨a9,eW⟩,⟨bN,mv⟩,⟨c5,DO⟩,⟨er,aHX⟩,⟨eT,aHY,iy,lu,ts⟩⟩⟩
def KW:List gt:=[.int .i64,.int .i64,.int .i64,.bool,.int .i64,.int .i64,.bool,.bool,.int .i64,.bool]
theorem aKx{vs:List V}(h:mM KW vs):∃q:Query,vs=q.row:=by
 obtain⟨_,_,rfl,U,h⟩:=eM h;obtain⟨_,_,rfl,af,h⟩:=eM h;obtain⟨_,_,rfl,ay,h⟩:=eM h;obtain⟨_,_,rfl,be,h⟩:=eM h;obtain⟨_,_,rfl,bv,h⟩:=eM h;obtain⟨_,_,rfl,b7,h⟩:=eM h;obtain⟨_,_,rfl,dQ,h⟩:=eM h;obtain⟨_,_,rfl,ch,h⟩:=eM h;obtain⟨_,_,rfl,eL,h⟩:=eM h;obtain⟨_,_,rfl,fp,h⟩:=eM h;cases tw h;obtain⟨bU,rfl,_⟩:=hE U;obtain⟨b4,rfl,_⟩:=hE af;obtain⟨cG,rfl,_⟩:=hE ay;obtain⟨dl,rfl⟩:=pT be;obtain⟨eY,rfl,_⟩:=hE bv;obtain⟨fQ,rfl,_⟩:=hE b7;obtain⟨jq,rfl⟩:=pT dQ;obtain⟨nZ,rfl⟩:=pT ch;obtain⟨Km,rfl,_⟩:=hE eL;obtain⟨aag,rfl⟩:=pT fp;exact⟨⟨bU,b4,cG,dl,eY,fQ,jq,nZ,Km,aag⟩,rfl⟩
end Go.aQ.C
