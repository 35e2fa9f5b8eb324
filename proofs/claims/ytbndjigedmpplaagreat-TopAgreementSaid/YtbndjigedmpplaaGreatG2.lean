/- A part of the proof of TopAgreement: the abstract machine, the code that the statement reaches, the contracts of its functions. Part 2. The text is made short by a program. -/
import Derived.Test.YtbndjigedmpplaaGreatG1
set_option linter.all false
set_option maxHeartbeats 8000000
set_option maxRecDepth 10000
open BitVec renaming ofInt->fF
open Bool renaming and_eq_true->bL,and_self->cR,false->ad,false_eq_true->gX,not_eq_true'->hM,or_eq_true->ln,true->U
open Int renaming le_refl->fS,toNat_natCast->dU
open List renaming append_assoc->cS,append_nil->ez,cons_append->fG,drop_eq_getElem_cons->mM,drop_zero->hN,ext_getElem?->lp,getElem?_append_left->et,getElem?_append_right->fH,getElem?_cons_zero->hg,getElem?_eq_getElem->cG,getElem?_eq_none->jd,getElem?_eq_some_iff->az,getElem?_map->dK,getElem?_of_mem->eb,getElem?_set_ne->bo,getElem?_set_self->bY,getElem?_take_of_lt->fT,length_append->b0,length_cons->cc,length_eq_zero_iff->lY,length_filter_le->lZ,length_map->cz,length_nil->eu,length_set->cW,length_singleton->hP,length_take->fh,map_append->iL,map_cons->gg,map_nil->jD,mem_append->dv,mem_cons->fI,mem_cons_of_mem->fs,mem_filter->jf,mem_map->gY,mem_of_getElem?->bI,mem_range->hh,mem_singleton->dV,nil_append->eH,range->b8,replicate->d_,set_append->l1,set_set->h3,take_add_one->gM,take_length->f_,take_of_length_le->eS
open Nat renaming add_zero->g_,le_refl->bk,le_trans->fJ,lt_or_ge->eT,lt_succ_iff_lt_or_eq->hQ,not_lt_zero->c9,sub_self->hA,zero_add->dm,zero_le->c_
open Ne renaming symm->cA
open Option renaming map_eq_some_iff->cL,map_some->jE,none->ag,some->I
open Option.some renaming injEq->aC
namespace Go.ao.C
open Go.ao
noncomputable section
abbrev Vx:aU:=a9 64 [2,3,4] (am (ab 998 [.X 1 9 0,.i 2 0,.i 3 0,.i 4 0] 2) (fx (ab 12 [.F 0 1,.c1 77,.w 12,.v 12,.e,.w 5,.w 6] 98) (ab 18 [.F 1 1,.c1 78,.w 18,.v 18,.e,.w 7,.w 8] 482) (ab 23 [.m 5,.m 6,.n 0,.v 24,.v 25,.c3 80,.m 7,.m 8,.n 1,.v 27,.v 28,.c3 80,.v 26,.v 29,.M 111111 3 2 [(3,3),(0,3)],.c1 79,.K 3 9 111] 514) (cK 31 [.F 2 9,.bc .eql 0] 514 (ab 34 [.H 9 1,.c1 81,.S 3 9] 514)) (cK 36 [.F 2 9,.bc .eql 0] 514 (ab 39 [.H 9 1,.c1 82,.S 3 9] 514)) (cK 41 [.F 2 9,.bc .eql 0] 514 (am (ab 45 [.A 5 1,.h 4,.c1 46,.w 45,.v 45,.e,.w 10,.w 11] 3586) (ab 50 [.H 9 1,.c1 83,.m 10,.m 11,.n 5,.v 53,.v 54,.c3 80,.v 52,.v 55,.M 111111 3 2 [(3,3),(0,3)],.c1 79,.S 3 9] 512))) (eh 57 [.F 0 9,.F 1 9,.F 2 9,.v 59,.w 2,.v 61,.w 3,.w 4] 28) aP))
def Vy:a3 37 Vx:=a2
abbrev WE:aU:=a9 54 [2,3] (gr (ab 0 [.i 2 0,.i 3 0] 1) (bC 6 [.m 0,.N,.bc .gtr 64] 1 (ab 0 [.i 2 0,.i 3 5] 12)) (ab 9 [.g (.makeMap ag),.w 4] 17) (am (ab 10 [.m 0,.N,.R (ca 13 0)] 14352) (c7 0 14352 13 [.v 13,.v 12,.B .lss] (b_ (ab 14 [.m 13,.v 13,.D 4 11,.h 4,.y 6 2131,.v 15,.w 5,.S 4 6] 14448) (cm 2 (am (ab 18 [.F 0 6,.aD 90,.T,.b9 18] 276592) (bM 18 (am (ab 22 [.m 5,.w 2,.i 3 12] 12) aP) (am (ab 24 [.m 4,.F 0 6,.dA (.lookup .str [eR] ad ad),.b9 24] 16791664) (bM 24 (am (ab 28 [.m 5,.w 2,.i 3 6] 12) aP) (am (ab 30 [.F 1 6,.bc .lss 0,.O,.F 1 6,.bc .geq 16,.Z,.O,.F 3 6,.bc .lss 0,.Z,.O,.F 3 6,.bc .gtr 3600,.Z,.b9 30] 1073756272) (bM 30 (am (ab 48 [.m 5,.w 2,.i 3 2] 12) aP) bd))))))) (ab 49 [.m 4,.F 0 6,.G (.mapUpdate .str (ai 50) (ai 52) jA)] 14352)) 52 [.v 13,.d .add 1,.w 13])) (ab 0 [.i 2 0,.i 3 0] 12) aP)
def WF:a3 77 WE:=a2
abbrev V3:aU:=a9 37 [2,3] (gr (ab 0 [.i 2 0,.i 3 0] 1) (bC 6 [.m 0,.N,.bc .gtr 64] 1 (ab 0 [.i 2 0,.i 3 5] 12)) (ab 9 [.g (.makeMap ag),.w 4] 17) (am (ab 10 [.m 0,.N,.R (ca 13 0)] 14352) (c7 0 14352 13 [.v 13,.v 12,.B .lss] (el (ab 14 [.m 13,.v 13,.D 3 11,.h 3,.y 6 213,.v 15,.w 5,.S 3 6] 14448) (bC 17 [.F 0 6,.aD 90,.T] 14448 (ab 21 [.m 5,.w 2,.i 3 12] 12)) (bC 22 [.m 4,.F 0 6,.dA (.lookup .str [eR] ad ad)] 14448 (ab 26 [.m 5,.w 2,.i 3 6] 12)) (bC 27 [.F 1 6,.aD 146,.T] 14448 (ab 31 [.m 5,.w 2,.i 3 2] 12)) (ab 32 [.m 4,.F 0 6,.G (.mapUpdate .str (ai 33) (ai 35) jA)] 14352)) 35 [.v 13,.d .add 1,.w 13])) (ab 0 [.i 2 0,.i 3 0] 12) aP)
def V4:a3 78 V3:=a2
abbrev VH:aU:=⟨17,[(.cell 2 3 U)],dj (ab 0 [.y 2 111] 5) (am (ab 4 [.m 0,.N,.R (ca 7 0)] 228) (c7 0 228 7 [.v 7,.v 6,.B .lss] (am (ab 8 [.v 7,.D 3 5,.h 3,.K 3 4 111] 244) (bC 10 [.F 2 4,.bc .neq 0] 244 (ab 13 [.H 3 4,.S 3 2] 4))) 14 [.v 7,.d .add 1,.w 7])) (ab 15 [.l 111 [],.S 3 2] 4) aP⟩
def VI:a3 79 VH:=a2
abbrev VZ:aU:=⟨11,[(.cell 6 3 U)],b_ (ab 0 [.y 6 111] 71) (ab 6 [.m 0,.m 1,.m 2,.l 111 [(2,1),(1,1),(0,1)],.S 3 6] 64) aP⟩
def V0:a3 80 VZ:=a2
abbrev RO:bu:=am (ab 23 [.F 3 5,.aD 90,.T,.b9 23] 8847422) (bM 23 (am (ab 27 [.m 4,.n 2,.v 28,.n 12,.c3 80,.S 3 2] 4) aP) (am (ab 30 [.F 0 5,.bc .lss (-1),.O,.F 2 5,.bc .lss 0,.Z,.b9 30] 1074200638) (bM 30 (am (ab 38 [.m 4,.n 2,.v 39,.n 2,.c3 80,.S 3 2] 4) aP) (am (ab 41 [.F 1 5,.bc .lss 0,.O,.F 1 5,.bc .gtr 36524,.Z,.b9 41] 2199023714366) (bM 41 (am (ab 49 [.m 4,.n 2,.v 50,.n 11,.c3 80,.S 3 2] 4) aP) (am (ab 52 [.F 4 5,.bc .lss 0,.O,.F 4 5,.F 1 1,.N,.a6 .geq,.Z,.b9 52] 4503599627829310) (bM 52 (am (ab 63 [.m 4,.n 2,.v 64,.n 9,.c3 80,.S 3 2] 4) aP) bd)))))))
abbrev VF:aU:=⟨96,[(.cell 2 3 U)],gr (ab 998 [.X 1 9 0,.y 2 111] 6) (bC 8 [.F 2 1,.N,.bc .gtr 1024] 6 (ab 12 [.n 2,.n 0,.n 5,.c3 80,.S 3 2] 4)) (ab 13 [.g (.makeMap ag),.w 3] 14) (am (ab 14 [.F 2 1,.N,.R (ca 18 0)] 458766) (c7 0 458766 18 [.v 18,.v 17,.B .lss] (gr (ab 19 [.m 18,.v 18,.D 8 16,.h 8,.y 5 11121334,.v 20,.w 4,.S 8 5] 458814) (cm 2 RO) (am (ab 66 [.F 7 5,.F 0 1,.N,.c 147 [ai 68,ai 71,f9 0,f9 3155932800],.w 66,.v 66,.e,.w 6,.w 7] 458942) (bC 74 [.m 7,.bc .neq 0] 458942 (ab 76 [.m 4,.m 7,.n 2,.v 77,.v 78,.c3 80,.S 3 2] 4))) (ab 79 [.F 3 5,.F 1 5,.F 2 5,.l 211 [(2,1),(1,1),(0,1)],.K 3 8 211] 459038) (bC 86 [.m 3,.H 3 8,.dA (.lookup (.cells [.str,.int,.int]) [eR] ad ad)] 459038 (ab 89 [.m 4,.n 2,.v 90,.n 6,.c3 80,.S 3 2] 4)) (ab 91 [.m 3,.H 3 8,.G (.mapUpdate (.cells [.str,.int,.int]) (ai 92) (ai 93) jA)] 458766)) 93 [.v 18,.d .add 1,.w 18])) (ab 94 [.l 111 [],.S 3 2] 4) aP⟩
def VG:a3 81 VF:=a2
abbrev RP:bu:=am (eh 100 [.m 8,.F 1 7,.bt 5,.f 0,.m 9,.F 3 7,.bt 5,.f 0,.a6 .neq,.b9 100] 1267650600228229401496732571134) (bM 100 (am (ab 113 [.m 6,.n 3,.v 114,.n 13,.c3 80,.S 3 2] 4) aP) (am (ab 116 [.dH 4 7,.Y,.F 1 7,.d .add 1,.m 8,.N,.a6 .neq,.O,.F 3 7,.bc .neq 0,.Z,.O,.fX 12,.Z,.O,.m 4,.F 2 7,.dA (.lookup .int [eR] ad ad),.Z,.O,.m 3,.F 2 7,.F 0 7,.bA 149,.Z,.Z,.b9 116] 83076749736557242056487941296882942) (bM 116 (am (ab 148 [.m 6,.n 3,.v 149,.n 19,.c3 80,.S 3 2] 4) aP) (am (ab 151 [.m 5,.H 4 10,.dA (.lookup (.cells [.int,.int,.int,.int]) [eR] ad ad),.b9 151] 2854495385411919762116571938898990272794854654) (bM 151 (am (ab 154 [.m 6,.n 3,.v 155,.n 6,.c3 80,.S 3 2] 4) aP) bd)))))
abbrev VB:aU:=⟨171,[(.cell 2 3 U)],nW (ab 998 [.X 1 9 0,.y 2 111] 6) (bC 12 [.F 3 1,.N,.bc .gtr 1024] 6 (ab 16 [.n 3,.n 0,.n 5,.c3 80,.S 3 2] 4)) (ab 17 [.g (.makeMap ag),.g (.makeMap ag),.v 18,.w 3,.w 4] 30) (ab 19 [.g (.makeMap ag),.w 5] 62) (am (ab 20 [.F 3 1,.N,.R (ca 24 0)] 29360190) (c7 0 29360190 24 [.v 24,.v 23,.B .lss] (am (ab 25 [.m 24,.v 24,.D 5 22,.h 5,.y 7 11113,.v 26,.w 6,.S 5 7] 29360382) (fx (bC 28 [.F 0 7,.F 2 1,.N,.ba 148,.T,.O,.F 2 7,.F 2 1,.N,.ba 148,.T,.Z,.O,.F 0 7,.F 2 7,.a6 .eql,.Z] 29360382 (ab 51 [.m 6,.n 3,.v 52,.n 9,.c3 80,.S 3 2] 4)) (eh 53 [.F 2 1,.F 0 7,.bt 8,.f 7,.F 2 1,.F 2 7,.bt 8,.f 7,.v 60,.w 8,.w 9] 29361150) (bC 67 [.F 1 7,.m 8,.N,.ba 148,.T,.O,.F 3 7,.m 9,.N,.ba 148,.T,.Z] 29361150 (ab 81 [.m 6,.n 3,.v 82,.n 9,.c3 80,.S 3 2] 4)) (ab 83 [.F 0 7,.F 1 7,.F 2 7,.F 3 7,.l 1111 [(3,1),(2,1),(1,1),(0,1)],.K 4 10 1111] 29362174) (ab 93 [.m 3,.F 0 7,.q (.lookup .int [v0] ad U),.w 93,.R (j3 98 93 0),.R (o1 99 93 1),.v 98,.w 11,.b9 12] 29366270) (cm 2 RP) (ab 156 [.m 5,.H 4 10,.G (.mapUpdate (.cells [.int,.int,.int,.int]) (ai 157) (ai 158) jA)] 29360318) (cK 158 [.dH 4 7] 29360318 (e8 160 [.m 3,.F 0 7,.m 4,.F 2 7,.F 2 7,.G (.mapUpdate .int (ai 161) (ai 163) (ai 168)),.G (.mapUpdate .int (ai 164) (ai 166) jA)] [(8,[3,4,5]),(0,[])] 29360190)))) 168 [.v 24,.d .add 1,.w 24])) (ab 169 [.l 111 [],.S 3 2] 4) aP⟩
def VC:a3 82 VB:=a2
abbrev RQ:bu:=am (ab 23 [.F 0 5,.F 0 1,.N,.ba 148,.T,.O,.F 1 5,.F 0 1,.N,.ba 148,.T,.Z,.O,.F 0 5,.F 1 5,.a6 .eql,.Z,.b9 23] 8392318) (bM 23 (am (ab 46 [.m 4,.n 4,.v 47,.n 9,.c3 80,.S 3 2] 4) aP) (am (ab 49 [.F 2 5,.bc .lss 1,.O,.F 2 5,.bc .gtr 14400,.Z,.b9 49] 562949953424990) (bM 49 (am (ab 57 [.m 4,.n 4,.v 58,.n 2,.c3 80,.S 3 2] 4) aP) (am (ab 60 [.m 3,.H 4 6,.dA (.lookup (.cells [.int,.int,.int,.bool]) [eR] ad ad),.b9 60] 1152921504606850654) (bM 60 (am (ab 63 [.m 4,.n 4,.v 64,.n 6,.c3 80,.S 3 2] 4) aP) bd)))))
abbrev VD:aU:=⟨78,[(.cell 2 3 U)],gr (ab 998 [.X 1 9 0,.y 2 111] 6) (ab 6 [.g (.makeMap ag),.w 3] 14) (am (ab 7 [.F 4 1,.N,.R (ca 11 0)] 3598) (c7 0 3598 11 [.v 11,.v 10,.B .lss] (dj (ab 12 [.m 11,.v 11,.D 4 9,.h 4,.y 5 1113,.v 13,.w 4,.S 4 5] 3646) (ab 15 [.F 0 5,.F 1 5,.dH 3 5,.l 1113 [(3,1),(1,1),(0,1)],.K 4 6 1113] 3710) (cm 2 RQ) (ab 65 [.m 3,.H 4 6,.G (.mapUpdate (.cells [.int,.int,.int,.bool]) (ai 66) (ai 67) jA)] 3598)) 67 [.v 11,.d .add 1,.w 11])) (bC 68 [.F 4 1,.F 0 1,.N,.ba 150,.T] 4 (ab 75 [.n 4,.n 0,.n 18,.c3 80,.S 3 2] 4)) (ab 76 [.l 111 [],.S 3 2] 4) aP⟩
def VE:a3 83 VD:=a2
abbrev Gk:aU:=a9 48 [2] (dj (ab 0 [.u 2] 1) (am (ab 0 [.i 3 0] 9) (e9 0 9 4 [.m 3,.m 0,.p .k4,.a6 .lss] (am (ab 10 [.m 0,.m 3,.q .mq,.w 4] 25) (cm 2 (am (am (ab 14 [.m 4,.sD (.cp .leq .none (.const (.int .u8 97))),.Y,.m 4,.V (.const (.int .u8 122)),.dA (.cp .leq .none),.Z,.b9 14] 16409) (bM 14 bd (am (ab 20 [.m 4,.sD (.cp .leq .none (.const (.int .u8 65))),.Y,.m 4,.V (.const (.int .u8 90)),.dA (.cp .leq .none),.Z,.b9 14] 16409) (bM 14 bd (ab 26 [.m 4,.sD (.cp .leq .none (.const (.int .u8 48))),.Y,.m 4,.V (.const (.int .u8 57)),.dA (.cp .leq .none),.Z,.b9 14] 16409))))) (bM 14 bd (am (am (ab 33 [.m 4,.V (.const (.int .u8 45)),.dA (.cp .eql .none),.b9 33] 8589934617) (bM 33 bd (am (ab 35 [.m 4,.V (.const (.int .u8 95)),.dA (.cp .eql .none),.b9 33] 8589934617) (bM 33 bd (ab 37 [.m 4,.V (.const (.int .u8 46)),.dA (.cp .eql .none),.b9 33] 8589934601))))) (bM 33 bd (am (ab 0 [.u 2] 4) aP))))))) 8 [.j 3])) (ab 39 [.m 0,.p .k4,.bc .gtr 0,.Y,.m 0,.p .k4,.bc .leq 32,.Z,.b9 2] 4) aP)
def Gl:a3 90 Gk:=a2
abbrev V5:aU:=a9 9 [2] (b_ (ab 0 [.u 2] 1) (ab 2 [.m 0,.bc .geq 0,.Y,.m 0,.bc .lss 8,.Z,.b9 2] 4) aP)
def V6:a3 146 V5:=a2
abbrev UA:aU:=a9 36 [8,9] (el (ab 0 [.i 8 0,.i 9 0] 15) (bC 11 [.m 0,.N,.bc .lss 2,.O,.m 0,.N,.bc .gtr 32,.Z] 15 (ab 0 [.i 8 0,.i 9 5] 768)) (am (ab 19 [.m 0,.N,.R (ca 22 0)] 6291471) (c7 0 6291471 22 [.v 22,.v 21,.B .lss] (b_ (ab 23 [.m 22,.w 10] 6292495) (ab 24 [.m 0,.m 10,.m 1,.m 2,.m 3,.c 175 [ai 25,ai 26,ai 27,ai 28,ai 29],.w 11] 6294543) (bC 30 [.m 11,.bc .neq 0] 6294543 (ab 32 [.m 10,.m 11,.v 33,.w 8,.w 9] 768))) 34 [.v 22,.d .add 1,.w 22])) (ab 0 [.i 8 0,.i 9 0] 768) aP)
def UB:a3 147 UA:=a2
abbrev V1:aU:=a9 12 [4] (b_ (ab 0 [.u 4] 3) (ab 4 [.m 0,.bc .geq 0,.Y,.m 0,.m 1,.a6 .lss,.Z,.b9 4] 16) aP)
def V2:a3 148 V1:=a2
abbrev VX:aU:=a9 25 [6] (dj (ab 0 [.u 6] 7) (am (ab 9 [.m 0,.m 1,.q (.lookup .int [v0] ad U),.w 9,.R (j3 13 9 0),.R (o1 14 9 1),.v 13,.w 7,.b9 8] 389) (cm 0 (eN [0,2,7,8] (b_ (qt 14 [.fX 8] 133 0) (cm 1 (bC 21 [.m 7,.m 2,.a6 .eql] 133 (ab 0 [.t 6] 64))) (ab 16 [.m 0,.m 7,.q (.lookup .int [v0] ad U),.w 16,.R (j3 20 16 0),.R (o1 21 16 1),.v 20,.w 7,.b9 8] 389))))) (ab 0 [.u 6] 64) aP)
def VY:a3 149 VX:=a2
abbrev U7:aU:=a9 43 [4] (fx (ab 0 [.u 4] 3) (bC 8 [.m 1,.bc .gtr 64] 3 (ab 0 [.u 4] 16)) (am (ab 11 [.m 0,.m 1,.c2 176,.w 11,.v 11,.e,.w 5,.w 6] 67) (bC 16 [.m 6,.bc .neq 0] 3 (ab 0 [.u 4] 16))) (ab 18 [.m 0,.m 1,.n 0,.q (.k7 U),.c2 177,.w 7] 129) (bC 22 [.m 7,.N,.m 0,.N,.a6 .neq] 129 (ab 0 [.u 4] 16)) (am (ab 27 [.m 7,.N,.R (ca 30 0)] 1610612865) (c7 0 1610612865 30 [.v 30,.v 29,.B .lss] (b_ (ab 31 [.m 30,.w 8] 1610613121) (eh 32 [.m 7,.x 4 8,.h 4,.m 0,.x 4 8,.h 4,.dA (.cp .neq (.cells [.int,.int,.int,.bool]))] 2200633868417) (bM 41 (am (ab 0 [.u 4] 16) aP) bd)) 41 [.v 30,.d .add 1,.w 30])) (ab 0 [.t 4] 16) aP)
def U8:a3 150 U7:=a2
abbrev UC:aU:=a9 70 [10] (nW (ab 0 [.i 10 0] 31) (ab 11 [.m 0,.x 5 1,.h 5,.K 5 11 11133] 2079) (bC 15 [.F 0 11,.bc .lss 0,.O,.F 0 11,.m 2,.a6 .geq,.Z] 2075 (ab 0 [.i 10 9] 1024)) (am (eh 24 [.m 1,.bc .gtr 0,.Y,.m 0,.m 1,.d .sub 1,.bt 5,.f 0,.F 0 11,.a6 .eql,.Z] 137438955547) (bM 37 (am (ab 0 [.i 10 13] 1024) aP) bd)) (am (eh 37 [.F 1 11,.m 3,.a6 .lss,.O,.F 1 11,.F 2 11,.a6 .gtr,.Z,.O,.F 2 11,.m 4,.a6 .gtr,.Z,.O,.m 1,.bc .gtr 0,.Y,.F 1 11,.m 0,.m 1,.d .sub 1,.bt 5,.f 2,.a6 .lss,.Z,.Z] 590295810358705651712) (bM 69 (am (ab 0 [.i 10 10] 1024) aP) bd)) (ab 0 [.i 10 0] 1024) aP)
def UD:a3 175 UC:=a2
abbrev Vg:aU:=a9 62 [4,5] (el (ab 0 [.i 4 0,.i 5 0] 3) (ab 9 [.g (.makeMap ag),.w 6] 67) (am (ab 10 [.m 0,.N,.R (ca 13 0)] 14402) (c7 0 14402 13 [.v 13,.v 12,.B .lss] (dj (ab 14 [.m 13,.v 13,.D 4 11,.h 4,.y 8 1113,.v 15,.w 7,.S 4 8] 14786) (ab 17 [.F 0 8,.F 1 8,.dH 3 8,.l 113 [(2,1),(1,1),(0,1)],.K 3 9 113] 15298) (cm 2 (am (am (ab 25 [.F 0 8,.bc .lss 0,.b9 25] 33569730) (bM 25 bd (am (ab 28 [.F 0 8,.m 1,.a6 .geq,.b9 25] 33569730) (bM 25 bd (am (ab 32 [.F 1 8,.bc .lss 0,.b9 25] 33569730) (bM 25 bd (am (ab 35 [.F 1 8,.m 1,.a6 .geq,.b9 25] 33569730) (bM 25 bd (ab 39 [.F 0 8,.F 1 8,.a6 .eql,.b9 25] 33569730))))))))) (bM 25 (am (ab 44 [.m 7,.w 4,.i 5 9] 48) aP) (am (am (ab 46 [.F 2 8,.bc .lss 1,.b9 46] 70368744192962) (bM 46 bd (ab 49 [.F 2 8,.bc .gtr 14400,.b9 46] 70368744192706))) (bM 46 (am (ab 52 [.m 7,.w 4,.i 5 2] 48) aP) (am (ab 54 [.m 6,.H 3 9,.dA (.lookup (.cells [.int,.int,.bool]) [eR] ad ad),.b9 54] 18014398509497026) (bM 54 (am (ab 57 [.m 7,.w 4,.i 5 6] 48) aP) bd))))))) (ab 58 [.m 6,.H 3 9,.G (.mapUpdate (.cells [.int,.int,.bool]) (ai 59) (ai 60) jA)] 14402)) 60 [.v 13,.d .add 1,.w 13])) (ab 0 [.i 4 0,.i 5 0] 48) aP)
def Vh:a3 176 Vg:=a2
abbrev DC:bu:=aS 58 (ab 64 [.v 7,.L,.w 4] 16)
theorem Tg(P:Program)(Q:Exit->av->Mem->Prop)(s:av)(M:Mem):ck P DC Q s M=@kM P [dy 65 7,a5 4 65] M ⟨s,λb a=>Q .normal (fQ b [4]) a⟩:=rfl
abbrev U9:aU:=a9 66 [4] (fx (ab 0 [.V dF,.w 4] 3) (ab 12 [.m 0,.m 1,.c 204 [ai 13,ai 14,mK],.m 0,.m 1,.c 204 [ai 16,ai 17,jA],.v 15,.w 5,.w 6] 96) (ab 0 [.y 7 4] 224) (ab 18 [.g (.jQ 205 [ai 7]),.w 8] 480) (am (ab 19 [.m 5,.N,.R (ca 22 0)] 6291936) (c7 0 6291936 22 [.v 22,.v 21,.B .lss] (b_ (ab 23 [.m 22,.w 9] 6292448) (ab 24 [.m 5,.x 1 9,.L,.N,.R (ca 30 0)] 1885340640) (c7 2 1885340640 30 [.v 30,.v 29,.B .lss] (el (ab 31 [.m 30,.v 30,.D 1 28,.L,.v 32,.w 10,.w 11] 1885343712) (cK 34 [.m 9,.m 10,.a6 .eql] 1885343712 (dM 3)) (ab 37 [.m 6,.x 1 9,.L,.x 1 10,.L,.w 12] 1885347808) (ab 44 [.m 8,.m 9,.m 10,.m 11,.m 12,.m 11,.a6 .eql,.g (.fM (ai 45) [ai 46,ai 47,ai 48,ai 51])] 1885347808) (cK 52 [.m 12,.m 11,.a6 .neq] 1885345760 (ab 55 [.m 8,.m 9,.m 10,.m 12,.g (.fM (ai 56) [ai 57,ai 58,ai 59,jA])] 1885340640))) 60 [.v 30,.d .add 1,.w 30])) 61 [.v 22,.d .add 1,.w 22])) (ab 62 [.v 7,.L,.V (.const (.cI 207 [])),.c2 206] 128) DC aP)
def Vd:a3 177 U9:=a2
abbrev Ve:aU:=a9 81 [6] (fx (ab 0 [.V dF,.w 6] 7) (ab 17 [.g (.makeMap ag),.w 7] 135) (am (ab 18 [.m 0,.N,.R (ca 21 0)] 3670150) (c7 0 3670150 21 [.v 21,.v 20,.B .lss] (el (ab 22 [.v 21,.D 4 19,.h 4,.K 4 9 1113] 3670662) (cK 24 [.fX 2,.Y,.dH 3 9,.T,.Z] 3670662 (dM 1)) (ab 30 [.F 0 9,.F 1 9,.l 113 [(1,1),(0,1)],.K 3 10 113] 3671686) (ab 36 [.m 7,.H 3 10,.q (.lookup (.cells [.int,.int,.bool]) [v0] ad U),.w 36,.R (j3 40 36 0),.R (o1 41 36 1),.v 40,.w 11,.b9 12] 3677830) (cK 41 [.fX 12,.T,.O,.F 2 9,.m 11,.a6 .lss,.Z] 3671686 (ab 49 [.m 7,.H 3 10,.F 2 9,.G (.mapUpdate (.cells [.int,.int,.bool]) (ai 50) (ai 51) (ai 53))] 3670150))) 53 [.v 21,.d .add 1,.w 21])) (ab 54 [.m 7,.p .pZ,.p (.makeSlice [v0,v0,v0] 3 24 (f9 0)),.w 13] 8322) (am (ab 57 [.m 7,.p .p8] 576460752303431682) (cm 2 (aS 49 (eN [1,13,59] (b_ (ab 59 [.g (.n2 (ai 59)),.R (o1 61 60 0)] 2882303761517125634) (bM 61 bd (dM 2)) (cm 3 (am (ab 61 [.v 59,.p .pH,.e,.K 3 14 113,.w 15] 576460752303480834) (ab 64 [.m 13,.F 0 14,.F 1 14,.m 15,.l 111 [(2,1),(1,1),(0,1)],.M 111 3 1 [(0,3)],.R (ei 73 3 24 65 72),.w 13] 576460752303431682)))))))) (ab 74 [.m 1,.v 13,.p .nf,.c2 218,.w 74,.v 74,.e,.w 16,.w 17] 65536) (ab 79 [.m 16,.w 6] 64) aP)
def Vf:a3 204 Ve [(16,[1])]:=a2
abbrev U_:aU:=a9 23 [] (cK 8 [.m 2,.bc .gtr 0,.Y,.m 2,.bc .leq 14400,.Z] 31 (ab 14 [.v 4,.L,.m 0,.m 1,.m 2,.fX 3,.l 1113 [(3,1),(2,1),(1,1),(0,1)],.M 1113 4 1 [(0,4)],.R (ei 22 4 32 15 21),.S 1 4] 0))
def Va:a3 205 U_:=a2
abbrev Vb:aU:=a9 22 [4] (b_ (ab 0 [.X 2 4 0,.X 3 4 1,.i 4 0] 12) (ed 4 [.F 0 2,.F 0 3,.c2 100,.F 1 2,.F 1 3,.c2 100,.F 2 2,.F 2 3,.c2 100,.M 111 1 3 [(2,1),(1,1),(0,1)],.c1 99,.w 4] [af,af,af,af,af,af,af,af,af,af,af,af,af,af,dY,af,dY,af] 16) aP)
def Vc:a3 207 Vb:=a2
end
noncomputable section
abbrev Gi:aU:=a9 8 [2] (dj (ab 0 [.V (.const .db),.w 2] 1) (bC 2 [.m 0,.V (.const .ff),.dA (.cp .eql .fn)] 1 (ab 0 [.V (.const .db),.w 2] 4)) (ab 4 [.m 0,.g (.build [.ff,g9,v0] [(0,(1,(ai 5)))]),.R (q4 7 3 6),.w 2] 4) aP)
def Gj:a3 33 Gi:=a2
abbrev F5:aU:=a9 10 [2] (dj (ab 0 [.i 2 0] 1) (bC 2 [.m 0,.V (.const .db),.dA (.cp .eql .ptr)] 1 (ab 0 [.i 2 0] 4)) (ab 4 [.P 0 1,.N,.w 2] 4) aP)
def z6:a3 72 F5:=a2
abbrev F8:aU:=⟨36,[(.cell 2 13 U),(.tmp 3)],dj (ab 0 [.y 2 1111111111154,.u 3] 5) (ab 7 [.m 0,.c1 138,.w 7,.R (j3 10 7 0),.R (o1 11 7 1),.v 10,.K 13 4 1111111111154,.b9 5] 53) (bC 11 [.fX 5,.T] 21 (ab 13 [.H 13 4,.S 13 2,.u 3] 12)) (aS 23 (am (aS 10 (ab 14 [.P 0 1,.N,.d .sub 1,.w 6] 85)) (aS 22 (am (aS 12 (ab 20 [.m 0,.m 6,.v 21,.n 0,.v 22,.c3 139] 85)) (aS 21 (am (aS 14 (ab 23 [.m 0,.P 0 1,.m 6,.g (.slice 14 (ai 28) ag (I (ai 29)) ag),.v 24,.C,.a 1,.s 1] 21)) (aS 20 (am (aS 16 (ab 32 [.m 0,.c1 140] 20)) (aS 19 (am (aS 18 (ab 34 [.H 13 4,.S 13 2,.t 3] 12)) aP))))))))))⟩
def F9:a3 73 F8:=a2
abbrev UG:aU:=a9 18 [2] (el (ab 0 [.i 2 0] 1) (ab 0 [.i 3 0] 9) (am (ab 5 [.m 0,.N,.R (ca 8 0)] 456) (c7 0 456 8 [.v 8,.v 7,.B .lss] (am (ab 9 [.v 8,.D 1 6,.L,.w 5] 488) (bC 11 [.m 5,.m 3,.a6 .neq] 488 (ab 14 [.m 5,.w 2] 4))) 15 [.v 8,.d .add 1,.w 8])) (ab 16 [.m 3,.w 2] 4) aP)
def UH:a3 99 UG:=a2
abbrev UE:aU:=a9 20 [4] (am (ab 0 [.i 4 0] 3) (fx (ab 6 [.m 0,.aD 154,.b9 5] 35) (ab 8 [.m 1,.aD 154,.b9 6] 99) (cK 10 [.fX 5] 67 (b_ (bC 11 [.fX 6] 0 (ab 0 [.i 4 0] 16)) (ab 0 [.i 4 (-1)] 16) aP)) (bC 12 [.fX 6] 3 (ab 0 [.i 4 1] 16)) (bC 13 [.m 0,.m 1,.a6 .lss] 3 (ab 0 [.i 4 (-1)] 16)) (bC 16 [.m 0,.m 1,.a6 .gtr] 0 (ab 0 [.i 4 1] 16)) (ab 0 [.i 4 0] 16) aP))
def UF:a3 100 UE:=a2
abbrev Dw:bu:=aS 20 (cm 0 (aS 19 (eN [0,4] (b_ (qt 34 [.m 4,.bc .gtr 0,.Y,.m 0,.m 4,.m 4,.d .sub 1,.d .quo 2,.bA 166,.Z] 17 0) (cm 1 (ab 47 [.m 0,.m 4,.m 4,.d .sub 1,.d .quo 2,.c3 139] 17)) (ab 44 [.m 4,.d .sub 1,.d .quo 2,.w 4] 17)))))
abbrev F_:aU:=a9 54 [] (gr (ab 0 [.X 3 13 1] 9) (cK 4 [.m 0,.V (.const .db),.dA (.cp .eql .ptr)] 9 aP) (e8 6 [.m 0,.P 0 1,.H 13 3,.P 0 2,.l 11111111111541 [(13,1),(0,13)],.M 11111111111541 14 1 [(0,14)],.R (ei 19 14 128 11 18),.v 7,.C,.a 1,.s 1] [(12,[0]),(2,[])] 1) (ab 21 [.P 0 2,.d .add 1,.v 22,.C,.a 2,.s 1] 1) (ab 28 [.P 0 1,.N,.d .sub 1,.w 4] 17) Dw)
def z7:a3 137 F_:=a2
abbrev F6:aU:=⟨16,[(.cell 2 13 U),(.tmp 3)],el (ab 0 [.y 2 1111111111154,.u 3] 5) (ab 0 [.y 4 1111111111154] 21) (bC 4 [.m 0,.c1 72,.bc .eql 0] 21 (ab 7 [.H 13 4,.S 13 2,.u 3] 12)) (ab 8 [.P 0 1,.n 0,.q (.gq 14),.a 0,.h 13,.S 13 2,.t 3] 12) aP⟩
def F7:a3 138 F6:=a2
abbrev Ge:aU:=a9 32 [] (e8 5 [.P 0 1,.m 1,.P 0 1,.m 2,.P 0 1,.x 14 2,.h 14,.P 0 1,.x 14 1,.h 14,.v 10,.D 14 9,.v 22,.o 14,.v 15,.D 14 14,.s 14] [(25,[9]),(1,[])] 0)
def Gf:a3 139 Ge:=a2
abbrev Dx:bu:=aS 17 (am (aS 11 (cK 30 [.m 0,.m 3,.m 2,.bA 166,.T] 13 aP)) (aS 16 (am (aS 13 (ab 35 [.m 0,.m 2,.m 3,.c3 139] 9)) (aS 15 (ab 39 [.m 3,.w 2] 5)))))
abbrev Gc:aU:=a9 41 [] (am (ab 0 [.i 2 0] 5) (cm 0 (eN [0,2] (cm 1 (dj (ab 3 [.m 2,.p (.cp .mul .none (f9 2)),.d .add 1,.w 3] 13) (cK 6 [.m 3,.P 0 1,.N,.a6 .geq] 13 aP) (cK 13 [.m 3,.d .add 1,.P 0 1,.N,.a6 .lss,.Y,.m 0,.m 3,.d .add 1,.m 3,.bA 166,.Z] 13 (ab 28 [.j 3] 13)) Dx)))))
def Gd:a3 140 Gc:=a2
abbrev UI:aU:=a9 6 [2] (b_ (ab 0 [.u 2] 1) (ab 2 [.m 0,.m 0,.a6 .neq,.b9 2] 4) aP)
def UJ:a3 154 UI:=a2
abbrev Ga:aU:=a9 46 [6] (gr (ab 0 [.u 6] 7) (e8 8 [.P 0 1,.x 14 1,.h 14,.P 0 1,.x 14 2,.h 14,.y 7 11111111111541,.y 8 11111111111541,.v 15,.S 14 7,.S 14 8] [(14,[0,1,2,3,4,5,6,7,8,9,10,11,12,13]),(0,[0,1,2,3,4,5,6,7,8,9,10,11,12,13]),(0,[7,8,9,10,11,12,13]),(0,[])] 385) (am (ed 22 [.P 0 0,.A 0 7,.h 13,.A 0 8,.h 13,.jN (.fM (ai 26) [ai 28,ai 30])] [af,af,af,af,af,af,af,af,dY] 2147484033) (bM 31 (am (ab 0 [.t 6] 64) aP) bd)) (am (ed 31 [.P 0 0,.A 0 8,.h 13,.A 0 7,.h 13,.jN (.fM (ai 35) [ai 37,ai 39])] [af,af,af,af,af,af,af,af,dY] 1099511628160) (bM 40 (am (ab 0 [.u 6] 64) aP) bd)) (ab 40 [.F 13 7,.F 13 8,.a6 .lss,.b9 6] 64) aP)
def Gb:a3 166 Ga:=a2
abbrev Wo:aU:=a9 14 [] (am (ab 4 [.m 0,.N,.w 4] 19) (ab 6 [.m 0,.m 4,.m 4,.p (.conv .u64),.c1 153,.m 1,.c 219 [ai 7,f9 0,ai 8,ai 11,ai 12]] 0))
def Wp:a3 206 Wo:=a2
abbrev DG:bu:=aS 33 (ab 33 [.m 8,.w 4,.i 5 0] 48)
theorem Tj(P:Program)(Q:Exit->av->Mem->Prop)(s:av)(M:Mem):ck P DG Q s M=@kM P [a5 34 8,a5 4 34,ca 5 0] M ⟨s,λb a=>Q .normal (fQ b [4,5]) a⟩:=rfl
abbrev Wa:aU:=a9 35 [4,5] (fx (ab 0 [.V dF,.w 4,.i 5 0] 3) (ab 9 [.m 0,.m 1,.c 222 [ai 10,ai 11,dF],.w 6] 67) (bC 12 [.m 6,.bc .neq 0] 67 (ab 14 [.m 6,.V dF,.w 4,.w 5] 48)) (ab 15 [.m 1,.c 223 [ai 16,mK],.w 7] 129) (ab 17 [.m 0,.v 18,.q (.makeSlice [g9] 1 24),.w 8] 385) (am (ab 19 [.m 8,.N,.R (ca 22 0)] 6291841) (c7 0 6291841 22 [.v 22,.v 21,.B .lss] (am (ab 23 [.m 22,.w 9] 6292353) (ab 24 [.m 8,.m 9,.m 0,.m 7,.m 9,.c3 225,.c1 224,.v 26,.D 1 25,.s 1] 6291841)) 32 [.v 22,.d .add 1,.w 22])) DG aP)
def Wb:a3 218 Wa:=a2
abbrev WC:aU:=a9 148 [] (b_ (ab 0 [.t 10] 1055) (ab 0 [.t 11] 3103) (cm 0 (eN [0,1,2,3,4,10,11] (cm 1 (gr (ab 20 [.m 2,.m 1,.B .sub,.w 12] 7199) (bC 23 [.m 12,.bc .leq 12] 7199 (ab 25 [.m 0,.m 1,.m 2,.m 4,.c 226 [ai 26,ai 27,ai 28,ai 29]] 0)) (bC 30 [.m 3,.bc .eql 0] 7199 (ab 32 [.m 0,.m 1,.m 2,.m 4,.c 227 [ai 33,ai 34,ai 35,ai 36]] 0)) (cK 37 [.fX 10,.T] 7199 (am (ab 39 [.m 0,.m 1,.m 2,.m 4,.c 228 [ai 40,ai 41,ai 42,ai 43]] 7199) (ab 44 [.m 3,.d .sub 1,.w 3] 7199))) (ab 47 [.m 0,.m 1,.m 2,.m 4,.c 229 [ai 48,ai 49,ai 50,ai 51],.w 47,.v 47,.e,.w 13,.w 14] 31775) (fx (cK 54 [.m 14,.bc .eql 2] 31775 (b_ (ab 56 [.m 0,.m 1,.m 2,.m 4,.c 230 [ai 57,ai 58,ai 59,ai 60]] 15391) (ab 61 [.m 2,.d .sub 1,.m 13,.m 1,.B .sub,.B .sub,.w 13] 15391) (ab 0 [.i 14 1] 31775))) (cK 67 [.fX 10,.Y,.fX 11,.Z,.Y,.m 14,.bc .eql 1,.Z] 15391 (cK 75 [.m 0,.m 1,.m 2,.m 4,.k 231 [ai 76,ai 77,ai 78,ai 79]] 15391 aP)) (am (ed 80 [.m 1,.bc .gtr 0,.Y,.m 4,.m 0,.m 1,.d .sub 1,.bt 4,.h 4,.m 0,.x 4 13,.h 4,.g (.fM (ai 84) [ai 89,ai 93]),.bc .lss 0,.T,.Z] [af,af,af,af,af,af,af,af,af,af,af,af,af,dY,af,af,af] 158456325028528675187087916063) (bM 97 (b_ (ab 97 [.m 0,.m 1,.m 2,.m 13,.m 4,.c 232 [ai 98,ai 99,ai 100,ai 101,ai 102],.w 15] 35869) (ab 103 [.m 15,.w 1] 3103) (dM 1)) bd)) (ab 105 [.m 0,.m 1,.m 2,.m 13,.m 4,.c 233 [ai 106,ai 107,ai 108,ai 109,ai 110],.w 105,.R (j3 112 105 0),.R (o1 113 105 1),.v 112,.w 16,.b9 17] 200735) (ab 113 [.fX 17,.b9 11] 71711) (ab 114 [.m 16,.m 1,.B .sub,.m 2,.m 16,.B .sub,.v 117,.w 18,.w 19] 858143) (ab 120 [.m 12,.d .quo 8,.w 20] 1902623) (wt 122 [.m 18,.m 19,.a6 .lss] 1902623 (b_ (ab 125 [.m 18,.m 20,.a6 .geq,.b9 10] 68639) (ab 128 [.m 0,.m 1,.m 16,.m 3,.m 4,.c 219 [ai 129,ai 130,ai 131,ai 132,ai 133]] 68637) (ab 134 [.m 16,.d .add 1,.w 1] 3103)) (b_ (ab 136 [.m 19,.m 20,.a6 .geq,.b9 10] 68639) (ab 139 [.m 0,.m 16,.d .add 1,.m 2,.m 3,.m 4,.c 219 [ai 140,ai 142,ai 143,ai 144,ai 145]] 68635) (ab 146 [.m 16,.w 2] 3103)))))))))
def WD:a3 219 WC:=a2
abbrev Wc:aU:=a9 57 [6] (fx (ab 0 [.X 3 1 0,.i 6 0] 14) (bC 11 [.v 3,.L,.bc .lss 0,.O,.v 3,.L,.bc .gtr 64,.Z] 14 (ab 0 [.i 6 2] 64)) (bC 17 [.m 1,.N,.bc .gtr 4096] 14 (ab 0 [.i 6 5] 64)) (ab 20 [.g (.jQ 234 [ai 3]),.w 7] 134) (am (ab 21 [.m 1,.N,.R (ca 24 0)] 29360260) (c7 0 29360260 24 [.v 24,.v 23,.B .lss] (b_ (ab 25 [.v 24,.D 3 22,.h 3,.K 3 9 111] 29360772) (bC 27 [.m 7,.F 0 9,.jN (.fM (ai 28) [ai 30]),.O,.m 7,.F 1 9,.jN (.fM (ai 33) [ai 35]),.Z] 29360772 (ab 0 [.i 6 9] 64)) (bC 37 [.F 2 9,.bc .lss 0,.O,.F 2 9,.bc .gtr 1073741824,.Z] 29360260 (ab 0 [.i 6 2] 64))) 45 [.v 24,.d .add 1,.w 24])) (am (ab 46 [.m 2,.N,.R (ca 49 0)] 985162418487424) (c7 2 985162418487424 49 [.v 49,.v 48,.B .lss] (am (ab 50 [.v 49,.D 1 47,.L,.w 11] 985162418489472) (bC 52 [.m 7,.m 11,.jN (.fM (ai 53) [ai 54])] 985162418487424 (ab 0 [.i 6 9] 64))) 55 [.v 49,.d .add 1,.w 49])) (ab 0 [.i 6 0] 64) aP)
def Wf:a3 222 Wc:=a2
abbrev Wm:aU:=a9 34 [4] (el (ab 0 [.V (.const .hY),.w 4] 3) (ab 7 [.g (.makeMap ag),.w 5] 35) (am (ab 8 [.m 0,.N,.R (ca 11 0)] 3618) (c7 0 3618 11 [.v 11,.v 10,.B .lss] (b_ (ab 12 [.v 11,.D 3 9,.h 3,.K 3 7 111] 3746) (cK 14 [.fX 1] 3746 (ab 15 [.F 1 7,.F 0 7,.A 0 7,.v 17,.o 1,.A 1 7,.s 1] 3746)) (e8 21 [.m 5,.F 0 7,.m 5,.F 0 7,.q (.lookup .int [g9] ad ad),.H 3 7,.M 111 3 1 [(0,3)],.R (ei 31 3 24 28 30),.G (.mapUpdate .int (ai 22) (ai 24) (ai 31))] [(9,[0,1,2]),(0,[])] 3618)) 31 [.v 11,.d .add 1,.w 11])) (ab 32 [.m 5,.w 4] 16) aP)
def Wn:a3 223 Wm:=a2
abbrev DH:bu:=aS 24 (ab 21 [.m 3,.w 2] 4)
theorem Tk(P:Program)(Q:Exit->av->Mem->Prop)(s:av)(M:Mem):ck P DH Q s M=@kM P [a5 22 3,a5 2 22] M ⟨s,λb a=>Q .normal (fQ b [2]) a⟩:=rfl
abbrev Wi:aU:=a9 23 [2] (el (ab 0 [.V dF,.w 2] 1) (ab 5 [.m 0,.N,.v 7,.q (.makeSlice [v0] 1 8),.w 3] 9) (am (ab 8 [.m 0,.N,.R (ca 11 0)] 3592) (c7 0 3592 11 [.v 11,.v 10,.B .lss] (am (ab 12 [.m 11,.v 11,.D 3 9,.h 3,.y 5 111,.v 13,.w 4,.S 3 5] 3640) (ab 15 [.m 3,.m 4,.F 1 5,.v 17,.D 1 16,.s 1] 3592)) 20 [.v 11,.d .add 1,.w 11])) DH aP)
def Wj:a3 224 Wi:=a2
abbrev zc:bu:=aS 30 (ab 38 [.m 7,.w 6] 64)
theorem Tl(P:Program)(Q:Exit->av->Mem->Prop)(s:av)(M:Mem):ck P zc Q s M=@kM P [a5 39 7,a5 6 39] M ⟨s,λb a=>Q .normal (fQ b [6]) a⟩:=rfl
abbrev DI:bu:=aS 31 (am zc aP)
abbrev Wg:aU:=a9 82 [6] (gr (ab 0 [.V dF,.w 6] 7) (ab 13 [.m 0,.v 14,.q (.makeSlice [v0,v0,v0] 3 24),.w 7] 134) (am (ab 15 [.m 7,.N,.R (ca 18 0)] 393350) (c7 0 393350 18 [.v 18,.v 17,.B .lss] (am (ab 19 [.m 18,.w 8] 393606) (ab 20 [.m 7,.m 8,.m 8,.V (.const (.int .i64 (-1))),.V (.const (.int .i64 (-1))),.l 111 [(2,1),(1,1),(0,1)],.v 22,.D 3 21,.s 3] 393350)) 25 [.v 18,.d .add 1,.w 18])) (ab 26 [.c 235 [.const (.cI 236 [])],.w 9] 646) (ab 27 [.m 9,.m 2,.l 111 [(0,1)],.c2 237] 642) (cm 2 (eN [1,7,9] (cm 3 (gr (ab 32 [.m 9,.c1 238,.w 32,.R (j3 35 32 0),.R (o1 36 32 1),.v 35,.K 3 10 111,.b9 11] 3714) (cK 36 [.fX 11,.T] 1666 DI) (cK 39 [.m 7,.F 0 10,.bt 3,.f 2,.bc .geq 0] 1666 (dM 3)) (ab 46 [.m 7,.F 0 10,.H 3 10,.v 49,.D 3 47,.s 3] 1666) (ab 51 [.m 1,.F 0 10,.q (.lookup .int [g9] ad ad),.N,.R (ca 57 0)] 252201579132749442) (c7 4 252201579132749442 57 [.v 57,.v 56,.B .lss] (am (ab 58 [.v 57,.D 3 55,.h 3,.K 3 13 111] 252201579132757634) (cK 60 [.m 7,.F 1 13,.bt 3,.f 2,.bc .lss 0] 252201579132757634 (ab 67 [.m 9,.F 1 13,.F 1 10,.F 2 13,.B .add,.F 2 10,.d .add 1,.l 111 [(2,1),(1,1),(0,1)],.c2 237] 252201579132749442))) 80 [.v 57,.d .add 1,.w 57]))))))
def Wh:a3 225 Wg:=a2
abbrev Ws:aU:=a9 53 [] (am (ab 9 [.m 1,.d .add 1,.w 8] 271) (e9 0 271 11 [.m 8,.m 2,.a6 .lss] (am (ab 16 [.m 8,.w 9] 783) (cm 2 (eN [0,1,2,3,8,9] (b_ (am (ed 17 [.m 9,.m 1,.a6 .gtr,.Y,.m 3,.m 0,.x 4 9,.h 4,.m 0,.m 9,.d .sub 1,.bt 4,.h 4,.g (.fM (ai 22) [ai 26,ai 31]),.bc .lss 0,.Z] [af,af,af,af,af,af,af,af,af,af,af,af,af,af,dY,af,af] 17179869967) (bM 34 bd (dM 2))) (cm 3 (e8 36 [.m 0,.m 9,.m 0,.m 9,.d .sub 1,.m 0,.m 9,.d .sub 1,.bt 4,.h 4,.m 0,.x 4 9,.h 4,.v 38,.D 4 37,.v 46,.o 4,.v 41,.D 4 39,.s 4] [(15,[2,3,4]),(1,[])] 783)) (ab 34 [.m 9,.d .sub 1,.w 9] 783))))) 14 [.j 8]))
def Wt:a3 226 Ws:=a2
abbrev Wq:aU:=a9 63 [8,9] (am (ab 0 [.i 8 0,.i 9 0] 15) (fx (ab 14 [.m 2,.m 1,.B .sub,.w 10] 1035) (ab 0 [.y 11 1] 3083) (ab 17 [.m 1,.m 10,.d .quo 4,.d .mul 1,.B .add,.w 12] 7179) (ab 22 [.m 1,.m 10,.d .quo 4,.d .mul 2,.B .add,.w 13] 15371) (ab 27 [.m 1,.m 10,.d .quo 4,.d .mul 3,.B .add,.w 14] 31753) (cK 32 [.m 10,.bc .geq 8] 31753 (am (cK 34 [.m 10,.bc .geq 50] 30729 (b_ (ab 36 [.m 0,.m 12,.m 3,.c 240 [ai 37,ai 38,ai 11,ai 39],.w 12] 30729) (ab 40 [.m 0,.m 13,.m 3,.c 240 [ai 41,ai 42,ai 11,ai 43],.w 13] 30729) (ab 44 [.m 0,.m 14,.m 3,.c 240 [ai 45,ai 46,ai 11,ai 47],.w 14] 30729))) (ab 48 [.m 0,.m 12,.m 13,.m 14,.m 3,.c 241 [ai 49,ai 50,ai 51,ai 52,ai 11,ai 53],.w 13] 10240))) (ab 54 [.v 11,.L] 36028797018972160) (cm 0 (am (ab 57 [.v 55,.bc .eql 0,.b9 57] 180143985094828032) (bM 57 (am (ab 58 [.m 13,.w 8,.i 9 1] 768) aP) (am (ab 60 [.v 55,.bc .eql 12,.b9 60] 1152921504606855168) (bM 60 (am (ab 61 [.m 13,.w 8,.i 9 2] 768) aP) (am (ab 55 [.m 13,.w 8,.i 9 0] 768) aP))))))))
def Wr:a3 229 Wq:=a2
abbrev WA:aU:=a9 141 [8] (el (ab 0 [.u 8] 15) (ab 12 [.m 1,.d .add 1,.w 9] 527) (am (ab 0 [.i 10 0] 1551) (e9 0 1551 14 [.m 10,.bc .lss 5] (gr (cm 2 (eN [0,1,2,3,9,10] (am (am (ed 18 [.m 9,.m 2,.a6 .lss,.Y,.m 3,.m 0,.x 4 9,.h 4,.m 0,.m 9,.d .sub 1,.bt 4,.h 4,.g (.fM (ai 23) [ai 27,ai 32]),.bc .lss 0,.T,.Z] [af,af,af,af,af,af,af,af,af,af,af,af,af,af,dY,af,af,af] 68719478287) (bM 36 bd (dM 2))) (cm 3 (ab 36 [.j 9] 1551))))) (bC 38 [.m 9,.m 2,.a6 .eql] 1551 (ab 0 [.t 8] 256)) (bC 41 [.m 2,.m 1,.B .sub,.bc .lss 50] 1551 (ab 0 [.u 8] 256)) (e8 45 [.m 0,.m 9,.m 0,.m 9,.d .sub 1,.m 0,.m 9,.d .sub 1,.bt 4,.h 4,.m 0,.x 4 9,.h 4,.v 47,.D 4 46,.v 55,.o 4,.v 50,.D 4 48,.s 4] [(15,[2,3,4]),(1,[])] 1551) (cK 61 [.m 9,.m 1,.B .sub,.bc .geq 2] 1551 (am (ab 65 [.m 9,.d .sub 1,.w 11] 3599) (e9 4 3599 67 [.m 11,.bc .geq 1] (am (am (ed 71 [.m 3,.m 0,.x 4 11,.h 4,.m 0,.m 11,.d .sub 1,.bt 4,.h 4,.g (.fM (ai 72) [ai 76,ai 81]),.bc .lss 0,.T] [af,af,af,af,af,af,af,af,af,af,dY,af,af] 19342813113834066795302415) (bM 84 (dM 4) bd)) (e8 84 [.m 0,.m 11,.m 0,.m 11,.d .sub 1,.m 0,.m 11,.d .sub 1,.bt 4,.h 4,.m 0,.x 4 11,.h 4,.v 86,.D 4 85,.v 94,.o 4,.v 89,.D 4 87,.s 4] [(15,[2,3,4]),(1,[])] 3599)) 69 [.m 11,.d .sub 1,.w 11]))) (cK 100 [.m 2,.m 9,.B .sub,.bc .geq 2] 1551 (am (ab 104 [.m 9,.d .add 1,.w 12] 5647) (e9 6 5647 106 [.m 12,.m 2,.a6 .lss] (am (am (ed 111 [.m 3,.m 0,.x 4 12,.h 4,.m 0,.m 12,.d .sub 1,.bt 4,.h 4,.g (.fM (ai 112) [ai 116,ai 121]),.bc .lss 0,.T] [af,af,af,af,af,af,af,af,af,af,dY,af,af] 21267647932558653966460912964485518863) (bM 124 (dM 6) bd)) (e8 124 [.m 0,.m 12,.m 0,.m 12,.d .sub 1,.m 0,.m 12,.d .sub 1,.bt 4,.h 4,.m 0,.x 4 12,.h 4,.v 126,.D 4 125,.v 134,.o 4,.v 129,.D 4 127,.s 4] [(15,[2,3,4]),(1,[])] 5647)) 109 [.j 12])))) 16 [.j 10])) (ab 0 [.u 8] 256) aP)
def WB:a3 231 WA:=a2
abbrev Wd:aU:=a9 11 [3] (b_ (ab 0 [.u 3] 3) (ab 3 [.m 0,.bc .lss 0,.O,.m 0,.v 1,.L,.a6 .geq,.Z,.b9 3] 8) aP)
def We:a3 234 Wd:=a2
abbrev Vu:aU:=a9 8 [2] (dj (ab 0 [.V (.const .db),.w 2] 1) (bC 2 [.m 0,.V (.const .ff),.dA (.cp .eql .fn)] 1 (ab 0 [.V (.const .db),.w 2] 4)) (ab 4 [.m 0,.g (.build [.ff,g9,v0] [(0,(1,(ai 5)))]),.R (q4 7 3 6),.w 2] 4) aP)
def Vv:a3 235 Vu:=a2
abbrev Wk:aU:=a9 24 [4] (b_ (ab 0 [.X 2 3 0,.X 3 3 1,.u 4] 12) (ab 4 [.F 1 2,.F 1 3,.a6 .lss,.O,.F 1 2,.F 1 3,.a6 .eql,.Y,.F 2 2,.F 2 3,.a6 .lss,.Z,.Z,.b9 4] 16) aP)
def Wl:a3 236 Wk:=a2
abbrev DJ:bu:=aS 20 (cm 0 (aS 19 (eN [0,4] (b_ (qt 34 [.m 4,.bc .gtr 0,.Y,.m 0,.m 4,.m 4,.d .sub 1,.d .quo 2,.bA 242,.Z] 17 0) (cm 1 (ab 47 [.m 0,.m 4,.m 4,.d .sub 1,.d .quo 2,.c3 243] 17)) (ab 44 [.m 4,.d .sub 1,.d .quo 2,.w 4] 17)))))
abbrev Vn:aU:=a9 54 [] (gr (ab 0 [.X 3 3 1] 9) (cK 4 [.m 0,.V (.const .db),.dA (.cp .eql .ptr)] 9 aP) (e8 6 [.m 0,.P 0 1,.H 3 3,.P 0 2,.l 1111 [(3,1),(0,3)],.M 1111 4 1 [(0,4)],.R (ei 19 4 32 11 18),.v 7,.C,.a 1,.s 1] [(12,[0]),(2,[])] 1) (ab 21 [.P 0 2,.d .add 1,.v 22,.C,.a 2,.s 1] 1) (ab 28 [.P 0 1,.N,.d .sub 1,.w 4] 17) DJ)
def Gh:a3 237 Vn:=a2
abbrev Vm:aU:=⟨36,[(.cell 2 3 U),(.tmp 3)],am (ab 0 [.y 2 111,.u 3] 5) (fx (ab 7 [.m 0,.c1 244,.w 7,.R (j3 10 7 0),.R (o1 11 7 1),.v 10,.K 3 4 111,.b9 5] 53) (bC 11 [.fX 5,.T] 21 (ab 13 [.H 3 4,.S 3 2,.u 3] 12)) (ab 14 [.P 0 1,.N,.d .sub 1,.w 6] 85) (ab 20 [.m 0,.m 6,.v 21,.n 0,.v 22,.c3 243] 85) (ab 23 [.m 0,.P 0 1,.m 6,.g (.slice 4 (ai 28) ag (I (ai 29)) ag),.v 24,.C,.a 1,.s 1] 21) (ab 32 [.m 0,.c1 245] 20) (ab 34 [.H 3 4,.S 3 2,.t 3] 12) aP)⟩
def Gg:a3 238 Vm:=a2
abbrev Wu:aU:=a9 18 [8] (b_ (ab 0 [.i 8 0] 15) (ab 8 [.m 0,.m 1,.d .sub 1,.m 1,.m 1,.d .add 1,.m 2,.m 3,.c 241 [ai 9,ai 11,ai 12,ai 14,ai 15,ai 16],.w 8] 256) aP)
def Wv:a3 240 Wu:=a2
abbrev Ww:aU:=a9 41 [12] (gr (ab 0 [.i 12 0] 63) (ab 13 [.m 0,.m 1,.m 2,.m 4,.m 5,.c 246 [ai 14,ai 15,ai 16,ai 17,ai 18],.w 13,.v 13,.e,.w 1,.w 2] 63) (ab 22 [.m 0,.m 2,.m 3,.m 4,.m 5,.c 246 [ai 23,ai 24,ai 25,ai 26,ai 27],.w 22,.v 22,.e,.w 2,.w 3] 55) (ab 31 [.m 0,.m 1,.m 2,.m 4,.m 5,.c 246 [ai 32,ai 33,ai 34,ai 35,ai 36],.w 31,.v 31,.e,.w 1,.w 2] 4) (ab 39 [.m 2,.w 12] 4096) aP)
def Wx:a3 241 Ww:=a2
abbrev Vo:aU:=a9 46 [6] (gr (ab 0 [.u 6] 7) (e8 8 [.P 0 1,.x 4 1,.h 4,.P 0 1,.x 4 2,.h 4,.y 7 1111,.y 8 1111,.v 15,.S 4 7,.S 4 8] [(14,[0,1,2,3,4,5,6,7,8,9,10,11,12,13]),(0,[0,1,2,3,4,5,6,7,8,9,10,11,12,13]),(0,[7,8,9,10,11,12,13]),(0,[])] 385) (am (ed 22 [.P 0 0,.A 0 7,.h 3,.A 0 8,.h 3,.jN (.fM (ai 26) [ai 28,ai 30])] [af,af,af,af,af,af,af,af,dY] 2147484033) (bM 31 (am (ab 0 [.t 6] 64) aP) bd)) (am (ed 31 [.P 0 0,.A 0 8,.h 3,.A 0 7,.h 3,.jN (.fM (ai 35) [ai 37,ai 39])] [af,af,af,af,af,af,af,af,dY] 1099511628160) (bM 40 (am (ab 0 [.u 6] 64) aP) bd)) (ab 40 [.F 3 7,.F 3 8,.a6 .lss,.b9 6] 64) aP)
def Vp:a3 242 Vo:=a2
abbrev Vs:aU:=a9 32 [] (e8 5 [.P 0 1,.m 1,.P 0 1,.m 2,.P 0 1,.x 4 2,.h 4,.P 0 1,.x 4 1,.h 4,.v 10,.D 4 9,.v 22,.o 4,.v 15,.D 4 14,.s 4] [(25,[9]),(1,[])] 0)
def Vt:a3 243 Vs:=a2
abbrev Vk:aU:=⟨16,[(.cell 2 3 U),(.tmp 3)],el (ab 0 [.y 2 111,.u 3] 5) (ab 0 [.y 4 111] 21) (bC 4 [.m 0,.c1 247,.bc .eql 0] 21 (ab 7 [.H 3 4,.S 3 2,.u 3] 12)) (ab 8 [.P 0 1,.n 0,.q (.gq 4),.a 0,.h 3,.S 3 2,.t 3] 12) aP⟩
def Vl:a3 244 Vk:=a2
abbrev Vq:aU:=a9 41 [] (am (ab 0 [.i 2 0] 5) (cm 0 (eN [0,2] (cm 1 (gr (ab 3 [.m 2,.p (.cp .mul .none (f9 2)),.d .add 1,.w 3] 13) (cK 6 [.m 3,.P 0 1,.N,.a6 .geq] 13 aP) (cK 13 [.m 3,.d .add 1,.P 0 1,.N,.a6 .lss,.Y,.m 0,.m 3,.d .add 1,.m 3,.bA 242,.Z] 13 (ab 28 [.j 3] 13)) (cK 30 [.m 0,.m 3,.m 2,.bA 242,.T] 13 aP) (ab 35 [.m 0,.m 2,.m 3,.c3 243] 9) (ab 39 [.m 3,.w 2] 5))))))
def Vr:a3 245 Vq:=a2
abbrev Wy:aU:=a9 32 [10,11] (dj (ab 0 [.i 10 0,.i 11 0] 31) (am (ed 11 [.m 4,.m 0,.x 4 2,.h 4,.m 0,.x 4 1,.h 4,.g (.fM (ai 12) [ai 16,ai 20]),.bc .lss 0] [af,af,af,af,af,af,af,af,af,dY,af] 4194318) (bM 22 (b_ (ab 22 [.m 3,.C,.L,.d .add 1,.v 23,.C,.s 1] 6) (ab 27 [.m 2,.m 1,.v 28,.w 10,.w 11] 3072) aP) bd)) (ab 29 [.m 1,.m 2,.v 30,.w 10,.w 11] 3072) aP)
def Wz:a3 246 Wy:=a2
abbrev Vi:aU:=a9 10 [2] (dj (ab 0 [.i 2 0] 1) (bC 2 [.m 0,.V (.const .db),.dA (.cp .eql .ptr)] 1 (ab 0 [.i 2 0] 4)) (ab 4 [.P 0 1,.N,.w 2] 4) aP)
def Vj:a3 247 Vi:=a2
end
noncomputable section
abbrev HW:aU:=a9 62 [4,5] (el (ab 0 [.X 2 9 0,.X 3 10 1,.V dF,.w 4,.i 5 0] 12) (ab 10 [.H 9 2,.H 10 3,.c2 31,.w 10,.v 10,.e,.K 9 6 444444111,.w 7] 204) (aS 8 (bC 15 [.m 7,.bc .neq 0] 76 (ab 17 [.H 9 2,.H 10 3,.c2 32,.V dF,.w 4,.w 5] 48))) (aS 13 (bC 20 [.dH 3 3] 76 (ab 0 [.V dF,.w 4,.i 5 22] 48))) (fx (aS 15 (ab 23 [.A 5 2,.h 4,.c1 19,.w 23,.v 23,.e,.w 8,.w 7] 456)) (aS 20 (bC 28 [.m 7,.bc .neq 0] 456 (ab 30 [.m 7,.V dF,.w 4,.w 5] 48))) (aS 22 (ab 31 [.H 9 6,.H 10 3,.g (.makeMap ag),.g (.build [g9,g9,g9,g9,g9,g9,v0,v0,v0,v0,v0,v0,eR,v0,v0,eR,eR,v0,eR,.hY,.db,g9] [(0,(9,(ai 32))),(9,(10,(ai 33))),(19,(1,(ai 34)))]),.R (q4 36 22 35),.w 9] 776)) (aS 24 (ab 36 [.m 9,.m 9,.m 9,.v 37,.C,.a 9,.a 6,.G (.store 1 (ai 42) mK),.v 38,.C,.a 9,.a 7,.G (.store 1 (ai 45) mK),.v 39,.C,.a 9,.a 8,.G (.store 1 (ai 48) (f9 0))] 776)) (aS 26 (ab 48 [.m 9,.c 33 [.const (.cI 34 [])],.v 49,.C,.a 20,.s 1] 776)) (aS 28 (ab 52 [.m 9,.m 8,.c2 35] 520)) (aS 30 (e8 55 [.H 10 3,.m 9,.C,.a 21,.p .nY,.c2 36,.w 4,.i 5 0] [(4,[0]),(0,[])] 48)) aP))
def HZ:a3 15 HW [(13,[4])]:=a2
abbrev HX:aU:=a9 10 [4] (b_ (ab 0 [.X 2 13 0,.X 3 13 1,.u 4] 12) (ab 4 [.F 8 2,.F 8 3,.a6 .lss,.b9 4] 16) aP)
def HY:a3 34 HX:=a2
abbrev If:aU:=a9 38 [] (am (ed 5 [.m 0,.m 0,.C,.a 9,.f 0,.V (.const (.int .i64 0)),.v 11,.l 11111111 [(1,1),(0,1)],.m 0,.C,.a 9,.f 2,.m 1,.l 1111111111154 [(11,1),(8,1),(0,8)],.v 6,.v 19,.c2 71] [af,af,af,af,af,af,af,af,af,af,af,af,af,af,dY] 1) (cm 0 (eN [0] (am (aS 3 (qt 20 [.P 0 20,.c1 72,.bc .gtr 0] 1 0)) (cm 1 (am (aS 5 (ab 27 [.P 0 20,.c1 73,.w 27,.R (j3 33 27 0),.R (o1 34 27 1),.v 33,.K 13 4 1111111111154,.b9 5] 17)) (aS 7 (ab 34 [.m 0,.H 13 4,.c2 74] 1))))))))
def Ig:a3 35 If:=a2
abbrev H2:aU:=a9 54 [4] (nW (ab 0 [.X 2 10 0,.V dF,.w 4] 6) (ab 4 [.g (.lL 4)] 38) (am (ab 12 [.m 1,.N,.R (ca 15 0)] 57382) (c7 0 57382 15 [.v 15,.v 14,.B .lss] (am (ab 16 [.v 15,.D 7 13,.h 7,.K 7 7 4111114] 57510) (ab 18 [.m 5,.H 10 2,.A 1 7,.h 5,.c2 75,.M 1111 4 1 [(0,4)],.R (ei 25 4 32 19 24),.w 5] 57382)) 25 [.v 15,.d .add 1,.w 15])) (ab 7 [.g (.lL 7)] 290) (am (aS 26 (ab 26 [.v 5,.p .nf,.c1 76,.N,.R (ca 30 0)] 1879048482)) (c7 2 1879048482 30 [.v 30,.v 29,.B .lss] (b_ (ab 31 [.v 30,.D 4 28,.h 4,.K 4 10 1111] 1879049506) (ab 33 [.m 1,.N,.R (ca 36 0)] 122138133794) (c7 4 122138133794 36 [.v 36,.v 35,.B .lss] (b_ (ab 37 [.m 36,.v 36,.D 7 34,.h 7,.y 12 4111114,.v 38,.w 11,.S 7 12] 122138139938) (eh 40 [.m 5,.x 4 11,.h 4,.H 4 10,.dA (.cp .eql (.cells [.int,.int,.int,.int]))] 70490882315554) (bM 46 (am (ab 46 [.m 8,.H 7 12,.M 4111114 7 1 [(0,7)],.R (ei 50 7 88 47 49),.w 8] 1879048482) (dM 4)) bd)) 50 [.v 36,.d .add 1,.w 36])) 51 [.v 30,.d .add 1,.w 30])) (aS 65 (ab 52 [.m 8,.w 4] 16)) aP)
def H3:a3 36 H2 [(1,[0]),(7,[0]),(8,[0])]:=a2
abbrev zn:bu:=aS 25 (am (aS 22 (e8 21 [.P 0 19,.A 0 3,.h 8,.r (hK 29 13 3),.r (dc 30 (.buildSlice [v0,v0,v0,v0,v0,v0,v0,v0,v0,v0,v0,.db,g9] 13 1 [(0,(13,(ai 29)))])),.r (dc 31 (.mapEntry (.cells [.int,.int,.int,.int,.int,.int,.int,.int]) (.slice [] .nil) (ai 25) (ai 27))),.R (j3 28 31 0),.r (j3 33 31 1),.r (ei 32 13 120 28 30),.G (.entryStore (ai 25) (ai 33) (ai 32))] [(8,[]),(2,[10]),(0,[])] 9)) (aS 24 (ed 33 [.P 0 20,.H 13 3,.c2 137] [af,af,af,af,af,dY] 0)))
abbrev vh:aU:=a9 40 [] (b_ (ab 0 [.X 3 13 1] 9) (am (eh 5 [.P 0 19,.A 0 3,.h 8,.q (.lookup (.cells [.int,.int,.int,.int,.int,.int,.int,.int]) [g9] ad ad),.N,.R (ca 14 0)] 28681) (c7 0 28681 14 [.v 14,.v 13,.B .lss] (am (ab 15 [.v 14,.D 13 12,.h 13,.K 13 5 1111111111154] 28713) (cK 17 [.H 13 5,.H 13 3,.ba 136] 28681 aP)) 20 [.v 14,.d .add 1,.w 14])) zn)
def H4:a3 71 vh:=a2
abbrev DV:bu:=aS 11 (ab 65 [.m 0,.H 13 3,.F 8 3,.c3 143] 0)
abbrev DW:bu:=aS 27 (am (aS 24 (ab 39 [.m 0,.H 13 3,.m 4,.c3 143] 9)) (aS 26 (ab 43 [.m 0,.H 13 3,.c2 144] 0)))
abbrev DX:bu:=aS 29 (b_ (aS 18 (ab 19 [.F 8 3,.w 4] 25)) (aS 22 (cK 21 [.m 0,.C,.a 9,.hV 9] 25 (aS 20 (eh 26 [.m 4,.m 0,.C,.a 0,.f 0,.A 0 3,.f 1,.bt 4,.f 3,.B .add,.w 4] 25)))) DW)
abbrev In:aU:=a9 71 [] (b_ (ab 0 [.X 3 13 1] 9) (ab 4 [.A 0 3,.f 0] 137) (cm 0 (am (ab 47 [.v 7,.bc .eql 1,.b9 47] 140737488355465) (bM 47 (aS 5 (ab 48 [.m 0,.H 13 3,.c2 141] 0)) (aS 32 (am (ab 52 [.v 7,.bc .eql 2,.b9 52] 4503599627370505) (bM 52 (aS 12 (am (aS 9 (am (eh 53 [.A 0 3,.f 1,.m 0,.C,.a 9,.f 1,.a6 .eql] 4611686018427387913) (bM 62 (aS 7 (ab 62 [.m 0,.H 13 3,.c2 142] 9)) bd))) DV)) (aS 30 (am (aS 16 (am (eh 7 [.A 0 3,.f 1,.m 0,.C,.a 9,.f 1,.a6 .eql] 65545) (bM 16 (aS 14 (ab 16 [.m 0,.H 13 3,.c2 142] 9)) bd))) DX)))))))))
def Io:a3 74 In:=a2
abbrev H0:aU:=a9 31 [4] (b_ (ab 0 [.X 2 13 0,.X 3 13 1,.u 4] 12) (ab 4 [.F 8 2,.F 8 3,.a6 .leq,.Y,.F 9 2,.F 9 3,.a6 .leq,.Z,.Y,.F 10 2,.F 10 3,.a6 .leq,.Z,.Y,.F 11 2,.F 11 3,.ba 165,.Z,.b9 4] 16) aP)
def H1:a3 136 H0:=a2
abbrev Dy:bu:=aS 23 (el (aS 11 (ab 39 [.F 11 3,.A 0 3,.a 4,.h 4,.c2 20,.w 39,.v 39,.e,.w 4,.w 5] 57)) (aS 13 (cK 47 [.m 5,.bc .neq 0] 25 aP)) (aS 15 (ab 49 [.m 4,.A 11 3,.s 1] 9)) (aS 17 (ed 51 [.m 0,.H 13 3,.F 8 3,.m 0,.C,.a 0,.f 0,.A 0 3,.f 1,.bt 4,.f 3,.B .add,.c3 143] [af,af,af,af,af,af,af,af,af,af,af,af,af,af,af,af,dY] 9)) (aS 19 (ab 68 [.m 0,.H 13 3,.c2 144] 0)))
abbrev H9:aU:=a9 72 [] (el (ab 0 [.X 3 13 1] 9) (ab 5 [.m 0,.H 13 3,.c2 167] 9) (aS 5 (am (eh 8 [.m 0,.C,.a 0,.f 2,.A 0 3,.f 2,.bt 8,.f 7,.A 0 3,.f 3,.bt 5,.hV 4,.T] 67108873) (bM 26 aP bd))) (aS 9 (am (eh 26 [.A 0 3,.f 1,.m 0,.C,.a 9,.f 1,.a6 .eql] 34359738377) (bM 35 (aS 7 (ab 35 [.m 0,.H 13 3,.c2 142] 9)) bd))) Dy)
def H_:a3 141 H9:=a2
abbrev RD:bu:=aS 11 (am (e8 7 [.F 12 3,.l 311111113 [],.c2 168,.F 12 3,.N,.g (.slice 9 (ai 11) ag (I (ai 14)) ag),.l 4 [(0,1)],.K 1 4 4] [(9,[0,1,2,3,4,5,6,7,8]),(0,[])] 17) (aS 10 (am (aS 5 (e8 17 [.m 0,.C,.a 0,.h 9,.m 0,.C,.a 9,.h 10,.H 1 4,.c3 169,.w 17,.v 17,.E,.K 5 5 11111,.w 6,.w 7] [(14,[0,1,2,3,4,5,6,7,8,9,10,11,12,13]),(0,[12,13])] 241)) (aS 9 (cK 30 [.m 7,.bc .eql 0] 113 (aS 7 (e8 32 [.m 0,.P 0 21,.H 1 4,.H 5 5,.m 6,.l 4111114 [(6,1),(1,5),(0,1)],.M 4111114 7 1 [(0,7)],.R (ei 43 7 88 37 42),.v 33,.C,.a 21,.s 1] [(10,[0]),(2,[])] 0)))))))
abbrev Ia:aU:=a9 46 [] (am (ab 0 [.X 3 13 1] 9) RD)
def Ib:a3 142 Ia [(1,[9998]),(2,[9998]),(4,[9998])]:=a2
abbrev H6:aU:=a9 77 [] (b_ (ab 0 [.X 4 13 1] 21) (ab 9 [.m 0,.C,.a 0,.f 2,.N,.R (ca 16 0)] 114709) (cm 0 (eN [0,2,4,14,15,16] (dj (aS 5 (ab 16 [.v 16,.v 15,.B .lss] 245781)) (bM 17 bd (dM 0)) (cm 1 (b_ (aS 8 (ab 17 [.m 16,.v 16,.D 8 14,.h 8,.y 7 11121334,.v 18,.w 6,.S 8 7] 114901)) (aS 10 (ab 20 [.F 7 7,.N,.R (ca 24 0)] 29475029)) (cm 2 (eN [0,2,4,6,7,14,15,16,22,23,24] (dj (aS 12 (ab 24 [.v 24,.v 23,.B .lss] 63029461)) (bM 25 bd (dM 2)) (cm 3 (b_ (aS 15 (ab 25 [.m 24,.v 24,.D 5 22,.h 5,.y 9 11133,.v 26,.w 8,.S 5 9] 29475797)) (aS 17 (cK 28 [.dH 6 7,.O,.dH 3 9,.T,.Z,.O,.F 0 9,.A 0 4,.f 1,.a6 .neq,.Z,.O,.m 8,.d .add 1,.F 7 7,.N,.a6 .eql,.Z] 29475797 (dM 3))) (aS 21 (cK 51 [.F 2 9,.m 2,.a6 .geq,.O,.F 2 9,.F 8 4,.a6 .geq,.Y,.m 0,.H 13 4,.m 6,.m 8,.k 170 [ai 63,ai 64,ai 65,ai 66],.Z,.Z] 29475285 (aS 19 (ab 69 [.m 0,.H 13 4,.m 6,.m 8,.c 171 [ai 70,ai 71,ai 72,ai 73]] 29475029)))))) (aS 26 (ab 74 [.v 24,.d .add 1,.w 24] 29475029))))))) (aS 36 (ab 75 [.v 16,.d .add 1,.w 16] 114709))))))
def H7:a3 143 H6:=a2
abbrev Ip:aU:=a9 79 [] (b_ (ab 0 [.X 3 13 1] 9) (ab 6 [.m 0,.C,.a 0,.f 4,.N,.R (ca 13 0)] 14345) (cm 0 (eN [0,3,11,12,13] (dj (aS 5 (ab 13 [.v 13,.v 12,.B .lss] 30729)) (bM 14 bd (dM 0)) (cm 1 (fx (aS 8 (ab 14 [.v 13,.D 4 11,.h 4,.K 4 5 1113] 14377)) (aS 10 (am (eh 16 [.F 0 5,.A 0 3,.f 1,.a6 .neq,.O,.F 10 3,.F 2 5,.B .add,.m 0,.C,.a 9,.f 5,.a6 .gtr,.Z,.O,.F 8 3,.F 2 5,.B .add,.bc .gtr 3155932800,.Z] 8796093036585) (bM 43 (dM 1) bd))) (aS 12 (ab 43 [.H 13 3,.K 13 6 1111111111154] 14441)) (aS 14 (ab 44 [.F 1 5,.V (.const (.int .i64 2)),.v 46,.l 11111111 [(1,1),(0,1)],.A 0 6,.s 8] 14441)) (aS 16 (ab 48 [.F 8 3,.F 2 5,.B .add,.A 8 6,.s 1] 14441)) (aS 18 (ab 54 [.F 10 3,.F 2 5,.B .add,.A 10 6,.s 1] 14441)) (aS 20 (ab 60 [.F 12 3,.A 0 3,.f 1,.F 1 5,.F 8 3,.F 8 6,.l 311111113 [(7,1),(6,1),(5,1),(4,1)],.c2 168,.A 12 6,.s 1] 14409)) (aS 22 (ab 74 [.m 0,.H 13 6,.c2 71] 14345)))) (aS 32 (ab 77 [.v 13,.d .add 1,.w 13] 14345))))))
def Iq:a3 144 Ip:=a2
abbrev Ih:aU:=a9 67 [] (b_ (ab 0 [.X 3 13 1] 9) (ab 6 [.m 0,.C,.a 0,.f 3,.N,.R (ca 13 0)] 14345) (cm 0 (eN [0,3,11,12,13] (dj (aS 5 (ab 13 [.v 13,.v 12,.B .lss] 30729)) (bM 14 bd (dM 0)) (cm 1 (dj (aS 8 (ab 14 [.v 13,.D 5 11,.h 5,.K 5 5 11113] 14377)) (aS 10 (cK 16 [.dH 4 5,.T,.O,.F 0 5,.A 0 3,.f 2,.a6 .neq,.Z,.O,.F 1 5,.A 0 3,.f 3,.a6 .neq,.Z] 14377 (dM 1))) (aS 12 (e8 35 [.m 0,.C,.a 0,.f 2,.F 2 5,.bt 8,.h 8,.K 8 6 11121334] [(9,[0,1,2,3,4,5,6,7,8]),(0,[])] 14441)) (aS 16 (am (eh 44 [.dH 6 6,.T,.Y,.F 7 6,.n 0,.q (.gq 5),.f 2,.F 8 3,.a6 .geq,.Z] 144115188075870249) (bM 57 (aS 14 (ab 57 [.m 0,.H 13 3,.F 2 5,.A 0 3,.a 4,.h 4,.c 201 [ai 58,ai 59,ai 61,f9 0,jA,ai 64]] 14345)) bd))))) (aS 22 (ab 65 [.v 13,.d .add 1,.w 13] 14345))))))
def Ii:a3 167 Ih:=a2
abbrev Ir:aU:=a9 16 [4] (dj (ab 0 [.X 3 9 1,.V dF,.w 4] 9) (ab 5 [.m 0,.N,.d .add 1,.p (.makeSlice [eR,v0,v0,v0,v0,v0,v0,v0,eR] 9 72 (f9 0)),.w 5] 41) (e8 12 [.v 5,.w 10,.v 0,.w 11,.H 9 3,.M 311111113 9 1 [(0,9)],.r (ei 12 9 72 10 11),.R (ei 15 9 72 12 14),.w 4] [(4,[2,3]),(0,[])] 16) aP)
def Is:a3 168 Ir:=a2
abbrev Ic:aU:=a9 59 [8] (dj (ab 0 [.X 5 13 1,.u 8] 45) (am (ab 10 [.m 0,.C,.a 0,.f 3,.N,.R (ca 17 0)] 229420) (cm 0 (eN [2,3,5,15,16,17] (dj (aS 5 (ab 17 [.v 17,.v 16,.B .lss] 491564)) (bM 18 bd (dM 0)) (cm 1 (am (aS 8 (ab 18 [.v 17,.D 5 15,.h 5,.K 5 10 11113] 230444)) (aS 13 (bC 20 [.dH 4 10,.T,.Y,.A 0 5,.f 0,.bc .eql 1,.Z,.Y,.F 0 10,.A 0 5,.f 2,.a6 .eql,.Z,.Y,.F 1 10,.A 0 5,.f 3,.a6 .eql,.Z,.Y,.F 2 10,.m 2,.a6 .eql,.Z,.Y,.F 3 10,.m 3,.a6 .eql,.Z] 229420 (ab 0 [.t 8] 256))))) (aS 17 (ab 57 [.v 17,.d .add 1,.w 17] 229420)))))) (aS 25 (ab 0 [.u 8] 256)) aP)
def Ie:a3 170 Ic:=a2
abbrev H5:aU:=a9 71 [] (gr (ab 0 [.X 5 13 1] 45) (am (eh 9 [.F 9 5,.m 0,.C,.a 9,.f 4,.a6 .eql] 131117) (bM 17 aP bd)) (aS 5 (ab 17 [.m 0,.C,.a 0,.f 2,.x 8 2,.f 7,.x 5 3,.f 2,.w 8] 301)) (aS 7 (ab 30 [.F 9 5,.d .add 1,.A 9 5,.s 1] 301)) (aS 20 (cK 34 [.F 12 5,.N,.bc .eql 1,.Y,.F 12 5,.n 0,.q (.gq 9),.hV 0,.T,.Z] 301 (dj (aS 9 (ab 46 [.F 12 5,.n 0,.q (.gq 9),.h 9,.K 9 9 311111113] 813)) (aS 11 (ab 50 [.F 6 9,.m 8,.F 7 9,.B .sub,.B .add,.A 6 9,.s 1] 813)) (aS 13 (ab 58 [.m 8,.A 7 9,.s 1] 813)) (aS 15 (ab 60 [.H 9 9,.M 311111113 9 1 [(0,9)],.A 12 5,.s 1] 301))))) (aS 22 (ab 63 [.m 0,.H 13 5,.m 2,.m 3,.m 8,.l 1111 [(0,1)],.c 201 [ai 64,ai 65,ai 66,ai 67,mK,ai 69]] 0)))
def H8:a3 171 H5:=a2
abbrev RI:bu:=aS 32 (am (aS 23 (ab 100 [.F 0 14,.m 2,.m 13,.H 4 11,.V (.const (.int .i64 1)),.v 102,.v 103,.v 104,.v 105,.l 11111111 [(4,4),(3,1),(2,1),(1,1),(0,1)],.A 0 15,.s 8] 63645)) (aS 31 (am (aS 25 (ab 107 [.F 1 14,.A 8 15,.s 1] 63645)) (aS 30 (am (aS 27 (ed 110 [.F 12 7,.m 2,.m 3,.m 13,.F 7 12,.x 5 3,.f 0,.F 0 14,.F 7 12,.x 5 3,.f 2,.F 1 14,.fX 4,.V (.const (.bool U)),.v 113,.v 114,.v 115,.v 121,.v 123,.v 129,.v 131,.v 132,.l 311111113 [(8,1),(7,1),(6,1),(5,1),(4,1),(3,1),(2,1),(1,1),(0,1)],.v 112,.v 133,.c2 168,.A 12 15,.s 1] [af,af,af,af,af,af,af,af,af,af,af,af,af,af,af,af,af,af,af,af,af,af,af,dY,af,dY] 47261)) (aS 29 (ab 135 [.m 0,.H 13 15,.c2 71] 14493)))))))
abbrev DE:bu:=aS 33 (am (aS 21 (ab 99 [.H 13 7,.K 13 15 1111111111154] 63645)) RI)
abbrev Il:aU:=a9 139 [] (gr (ab 0 [.X 7 13 1,.X 11 4 5] 2205) (ab 15 [.m 0,.C,.a 0,.f 2,.x 8 2,.h 8,.K 8 12 11121334] 6301) (ed 23 [.F 3 11,.m 0,.C,.a 0,.f 1,.F 4 12,.bt 3,.f 1,.p (.cp .shl .none (f9 1)),.B .or,.A 3 11,.s 1] [af,af,af,af,af,af,af,af,af,af,af,af,af,af,af,dY] 6301) (ed 38 [.F 2 11,.m 0,.C,.a 0,.f 0,.F 7 12,.x 5 3,.f 0,.bt 4,.f 1,.p (.cp .shl .none (f9 1)),.B .or,.A 2 11,.s 1] [af,af,af,af,af,af,af,af,af,af,af,af,af,af,af,af,af,af,af,dY] 6301) (ab 57 [.m 3,.d .add 1,.w 13] 14493) (cm 0 (eN [0,2,3,4,7,11,12,13] (b_ (aS 11 (qt 59 [.m 13,.F 7 12,.N,.a6 .lss] 14493 0)) (cm 1 (el (aS 13 (ab 66 [.F 7 12,.x 5 13,.h 5,.K 5 14 11133] 30877)) (aS 15 (ed 71 [.F 2 11,.m 0,.C,.a 0,.f 0,.F 0 14,.bt 4,.f 1,.p (.cp .shl .none (f9 1)),.B .or,.A 2 11,.s 1] [af,af,af,af,af,af,af,af,af,af,af,af,af,af,af,dY] 30877)) (aS 17 (ab 86 [.F 1 14,.A 1 11,.s 1] 30877)) (aS 19 (cK 89 [.dH 4 14,.T,.Y,.m 0,.m 2,.m 13,.bA 217,.T,.Z] 30877 (dM 1))) DE)) (ab 64 [.j 13] 14493)))))
def Im:a3 201 Il:=a2
abbrev Ij:aU:=a9 34 [6] (dj (ab 0 [.u 6] 7) (am (ab 8 [.m 0,.C,.a 0,.f 3,.N,.R (ca 15 0)] 57350) (c7 0 57350 15 [.v 15,.v 14,.B .lss] (am (ab 16 [.v 15,.D 5 13,.h 5,.K 5 8 11113] 57606) (bC 18 [.dH 4 8,.Y,.F 0 8,.m 1,.a6 .eql,.Z,.Y,.F 1 8,.m 2,.a6 .eql,.Z] 57350 (ab 0 [.t 6] 64))) 32 [.v 15,.d .add 1,.w 15])) (ab 0 [.u 6] 64) aP)
def Ik:a3 217 Ij:=a2
end
noncomputable section
abbrev Gp:aU:=a9 58 [4,5] (fx (ab 0 [.X 2 9 0,.X 3 1 1,.V dF,.w 4,.i 5 0] 12) (am (ab 14 [.H 9 2,.c1 37,.w 14,.v 14,.E,.w 6,.w 7,.w 8] 268) (bC 19 [.m 8,.bc .neq 0] 12 (ab 0 [.V dF,.w 4,.i 5 21] 48))) (ab 0 [.y 9 4] 524) (ab 21 [.g (.jQ 38 [ai 2,ai 9]),.w 10] 1548) (ab 0 [.u 11] 3596) (am (ab 22 [.F 0 3,.N,.R (ca 26 0)] 117444100) (c7 0 117444100 26 [.v 26,.v 25,.B .lss] (el (ab 27 [.v 26,.D 9 24,.h 9,.K 9 13 311111113] 117452292) (bC 29 [.dH 0 13,.Y,.H 9 2,.H 9 13,.ba 41,.T,.Z] 117452292 (ab 0 [.V dF,.w 4,.i 5 9] 48)) (bC 37 [.dH 8 13,.Y,.dH 0 13,.T,.O,.fX 11,.T,.Z,.Z] 117450244 (ab 0 [.V dF,.w 4,.i 5 19] 48)) (cK 48 [.dH 0 13] 117450244 (ab 50 [.m 10,.H 9 13,.g (.fM (ai 51) [ai 52])] 117450244)) (ab 53 [.dH 0 13,.b9 11] 117444100)) 55 [.v 26,.d .add 1,.w 26])) (aS 53 (ab 56 [.v 9,.L,.w 4,.i 5 0] 48)) aP)
def Gs:a3 16 Gp:=a2
abbrev DK:bu:=aS 55 (c7 2 126100789566374032 56 [.v 56,.v 55,.B .lss] (am (ab 57 [.v 56,.D 4 54,.h 4,.K 4 11 1113] 126100789566376080) (cK 59 [.dH 3 11] 126100789566376080 (ab 61 [.F 4 7,.H 4 11,.M 1113 4 1 [(0,4)],.R (ei 66 4 32 63 65),.A 4 7,.s 1] 126100789566374032))) 67 [.v 56,.d .add 1,.w 56])
abbrev UP:aU:=⟨70,[(.cell 4 9 U),(.tmp 5)],nW (ab 0 [.X 2 9 0,.X 3 10 1,.y 4 444444111,.i 5 0] 28) (am (ab 11 [.H 9 2,.H 10 3,.c2 32,.w 6] 92) (bC 14 [.m 6,.bc .neq 0] 92 (ab 16 [.l 444444111 [],.m 6,.v 17,.S 9 4,.w 5] 48))) (ab 18 [.H 9 2,.c1 67,.K 9 7 444444111] 156) (am (ab 20 [.F 2 2,.N,.R (ca 24 0)] 29360284) (c7 0 29360284 24 [.v 24,.v 23,.B .lss] (b_ (ab 25 [.m 24,.v 24,.D 8 22,.h 8,.y 9 11121334,.v 26,.w 8,.S 8 9] 29361052) (ed 28 [.F 2 7,.m 8,.H 9 2,.H 10 3,.H 8 9,.bA 68,.T,.v 31,.D 8 30,.a 6,.s 1] [af,af,af,af,af,af,af,af,af,af,dY] 29361052) (ed 38 [.F 2 7,.m 8,.H 9 2,.H 10 3,.F 7 9,.c3 69,.v 41,.D 8 40,.a 7,.s 1] [af,af,af,af,af,af,af,af,af,af,dY] 29360284)) 48 [.v 24,.d .add 1,.w 24])) (cK 49 [.dH 6 3] 148 (b_ (ab 51 [.A 4 7,.G (.store 1 (ai 52) dF)] 148) (ab 52 [.F 4 2,.N,.R (ca 56 0)] 126100789566374032) DK)) (aS 61 (ab 68 [.H 9 7,.S 9 4,.i 5 0] 48)) aP⟩
def UQ:a3 31 UP:=a2
abbrev UL:aU:=a9 65 [4] (nW (ab 0 [.X 2 9 0,.X 3 10 1,.i 4 0] 12) (ab 9 [.H 9 2,.c1 37,.w 9,.v 9,.E,.w 5,.w 6,.w 7] 140) (bC 14 [.m 7,.bc .neq 0] 12 (ab 0 [.i 4 21] 16)) (ab 16 [.F 0 2,.N,.d .sub 1,.w 8] 264) (bC 20 [.F 0 3,.m 8,.v 22,.n 0,.v 23,.bA 70,.T,.O,.F 1 3,.m 8,.v 28,.n 0,.v 29,.bA 70,.T,.Z,.O,.F 2 3,.n 0,.n 3155932800,.bA 70,.T,.Z,.O,.F 4 3,.n 0,.n 8,.bA 70,.T,.Z,.O,.F 5 3,.n 0,.n 86400,.bA 70,.T,.Z,.O,.F 8 3,.n 0,.n 255,.bA 70,.T,.Z,.O,.dH 9 3,.Y,.dH 3 3,.Z,.Z] 0 (ab 0 [.i 4 22] 16)) (ab 0 [.i 4 0] 16) aP)
def UM:a3 32 UL:=a2
abbrev Gq:aU:=a9 65 [] (fx (ab 0 [.X 3 9 0] 14) (ab 6 [.H 9 1,.H 9 3,.c2 39,.p (.conv .i64),.w 4] 30) (ed 10 [.F 1 1,.F 2 1,.F 1 3,.bt 8,.f 4,.bt 3,.f 1,.M 1 1 1 [(0,1)],.c1 40,.p (.conv .i64),.w 5] [af,af,af,af,af,af,af,af,af,af,af,af,af,dY,af,af] 60) (bC 25 [.dH 8 3,.T] 60 (ab 28 [.v 2,.L,.F 6 3,.F 7 3,.m 4,.m 5,.l 1111 [(3,1),(2,1),(1,1),(0,1)],.M 1111 4 1 [(0,4)],.R (ei 38 4 32 29 37),.S 1 2] 0)) (ab 38 [.v 2,.L,.v 2,.L,.N,.d .sub 1,.bt 4,.w 6] 120) (ab 43 [.m 6,.F 7 3,.v 44,.C,.a 1,.s 1] 112) (ab 48 [.P 6 2,.m 4,.B .or,.v 49,.C,.a 2,.s 1] 96) (ab 56 [.P 6 3,.m 5,.B .or,.v 57,.C,.a 3,.s 1] 0))
def Gr:a3 38 Gq:=a2
abbrev Gz:aU:=a9 37 [4] (el (ab 0 [.X 2 9 0,.X 3 9 1,.V (.const (.int .u64 0)),.w 4] 12) (ab 0 [.V (.const (.int .u64 0)),.w 5] 44) (am (eh 7 [.F 2 2,.F 1 3,.bt 8,.f 7,.F 2 3,.F 3 3,.d .add 1,.g (.slice 5 (ai 14) (I (ai 16)) (I (ai 19)) ag),.N,.R (ca 22 0)] 7340068) (c7 0 7340068 22 [.v 22,.v 21,.B .lss] (am (ab 23 [.v 22,.D 5 20,.h 5,.K 5 7 11133] 7340196) (ab 25 [.m 5,.F 0 2,.F 0 7,.bt 4,.f 1,.c2 84,.w 5] 7340068)) 34 [.v 22,.d .add 1,.w 22])) (ab 35 [.m 5,.w 4] 16) aP)
def GA:a3 39 Gz:=a2
abbrev E8:aU:=a9 18 [2] (el (ab 0 [.V (.const (.int .u64 0)),.w 2] 1) (ab 0 [.V (.const (.int .u64 0)),.w 3] 9) (am (ab 5 [.m 0,.N,.R (ca 8 0)] 456) (c7 0 456 8 [.v 8,.v 7,.B .lss] (am (ab 9 [.v 8,.D 1 6,.L,.w 5] 488) (ab 11 [.m 3,.m 5,.c1 85,.B .or,.w 3] 456)) 15 [.v 8,.d .add 1,.w 8])) (ab 16 [.m 3,.w 2] 4) aP)
def E9:a3 40 E8:=a2
abbrev Gx:aU:=a9 41 [4] (b_ (ab 0 [.X 2 9 0,.X 3 9 1,.u 4] 12) (eh 4 [.F 1 3,.sD (.cp .leq .none (f9 0)),.Y,.F 1 3,.F 2 2,.N,.a6 .lss,.Z,.Y,.F 2 3,.sD (.cp .leq .none (f9 0)),.Z,.Y,.F 2 3,.F 3 3,.a6 .lss,.Z,.Y,.F 3 3,.F 2 2,.F 1 3,.bt 8,.f 7,.N,.a6 .lss,.Z,.b9 4] 16) aP)
def Gy:a3 41 Gx:=a2
def MF:List V:=[(.slice [] .nil),(.slice [] .nil),(.slice [] .nil),(.slice [] .nil),(.slice [] .nil),(.slice [] .nil),(.int .i64 0),(.int .i64 0),(.int .i64 0)]
abbrev RN:bu:=PA 18 MF 20 [.r (cQ 5 0 1),.r (dy 6 5),.r (cQ 8 1 1),.r (dy 9 8),.r (cQ 11 2 1),.r (dy 12 11),.r (cQ 14 3 1),.r (dy 15 14),.r (cQ 17 4 1),.r (dy 18 17),.r (cQ 20 5 1),.H 4 20,.r (i0 7 123 [ai 6]),.r (i0 10 124 [ai 9]),.r (i0 13 125 [ai 12]),.r (i0 16 126 [ai 15]),.r (i0 19 127 [ai 18]),.v 7,.v 10,.v 13,.v 16,.v 19,.v 21,.l 444444111 [(5,4),(4,1),(3,1),(2,1),(1,1),(0,1)],.K 9 3 444444111] [(12,[2,3,4,5,6,7,8,9,10,11]),(0,[4,5,6,7,8,9,10,11]),(0,[6,7,8,9,10,11]),(0,[8,9,10,11]),(0,[10,11]),(1,[0,1,2,3,4,5,6,7,8,9,10,11,17]),(0,[])] 14
abbrev Vz:aU:=⟨49,[(.cell 2 9 U)],gr (ab 998 [.X 1 9 0,.y 2 444444111] 6) RN (am (ab 22 [.F 2 3,.N,.R (ca 26 0)] 100663310) (c7 0 100663310 26 [.v 26,.v 25,.B .lss] (am (ab 27 [.m 26,.w 4] 100663326) (ed 28 [.F 2 3,.m 4,.F 2 3,.x 8 4,.f 7,.c1 128,.v 31,.D 8 30,.a 7,.s 1] [af,af,af,af,af,af,af,af,af,af,af,af,dY] 100663310)) 40 [.v 26,.d .add 1,.w 26])) (ab 41 [.A 5 1,.f 0,.c1 129,.A 5 3,.a 0,.s 1] 12) (ab 47 [.H 9 3,.S 9 2] 4) aP⟩
def VA:a3 67 Vz [(1,[9999,40018])]:=a2
abbrev UX:aU:=a9 20 [6] (dj (ab 0 [.X 3 9 0,.X 4 10 1,.X 5 8 2,.u 6] 56) (ab 7 [.F 1 3,.F 4 5,.bt 3,.h 3,.K 3 7 213] 176) (ab 13 [.H 8 5,.g (.jQ 132 [ai 4]),.g (.jQ 133 [ai 7,ai 4]),.g (.jQ 134 [ai 4,ai 7]),.g (.mf [.ff,.ff,.ff,.ff] 4 [(0,(1,(.const (.cI 131 [])))),(1,(1,(ai 15))),(2,(1,(ai 16))),(3,(1,(ai 17)))]),.v 14,.v 18,.ba 130,.b9 6] 64) aP)
def U6:a3 68 UX [(2,[5004])]:=a2
abbrev UT:aU:=a9 35 [6] (el (ab 0 [.X 3 9 0,.X 4 10 1,.V dF,.w 6] 28) (ab 6 [.g (.lL 5)] 156) (am (ab 9 [.m 2,.N,.R (ca 12 0)] 7320) (c7 0 7320 12 [.v 12,.v 11,.B .lss] (b_ (ab 13 [.v 12,.D 5 10,.h 5,.K 5 9 11133] 7832) (cK 15 [.H 9 3,.H 10 4,.F 0 9,.bA 135,.T] 7832 (ab 21 [.A 3 9,.G (.store 1 (ai 22) mK),.A 4 9,.G (.store 1 (ai 23) mK)] 7832)) (ab 23 [.m 7,.H 5 9,.M 11133 5 1 [(0,5)],.R (ei 27 5 32 24 26),.w 7] 7320)) 27 [.v 12,.d .add 1,.w 12])) (aS 29 (ab 28 [.m 7,.m 7,.N,.m 7,.N,.g (.slice 5 (ai 29) ag (I (ai 31)) (I (ai 33))),.w 6] 64)) aP)
def UU:a3 69 UT [(1,[0])]:=a2
abbrev UN:aU:=a9 15 [6] (b_ (ab 0 [.u 6] 7) (ab 6 [.m 0,.m 1,.a6 .geq,.Y,.m 0,.m 2,.a6 .leq,.Z,.b9 6] 64) aP)
def UO:a3 70 UN:=a2
abbrev Gt:aU:=⟨22,[(.cell 4 4 U)],el (ab 0 [.X 2 10 0,.X 3 5 1,.y 4 1111] 28) (ab 5 [.F 1 3,.F 2 3,.F 3 3,.F 4 3,.l 1111 [(3,1),(2,1),(1,1),(0,1)],.K 4 5 1111] 60) (cK 14 [.dH 3 2] 56 (ab 16 [.F 0 3,.p (.un .neg),.v 5,.n 0,.q (.eM 4 1),.s 1] 48)) (ab 20 [.H 4 5,.S 4 4] 16) aP⟩
def Gu:a3 75 Gt:=a2
abbrev G4:aU:=a9 17 [2] (el (ab 0 [.V dF,.w 2] 1) (ab 0 [.V dF,.w 3] 9) (am (ab 5 [.m 0,.N,.R (ca 8 0)] 456) (c7 0 456 8 [.v 8,.v 7,.B .lss] (am (ab 9 [.v 8,.D 4 6,.h 4,.K 4 5 1111] 488) (ab 11 [.m 3,.H 4 5,.c2 145,.w 3] 456)) 14 [.v 8,.d .add 1,.w 8])) (aS 24 (ab 15 [.m 3,.w 2] 4)) aP)
def G5:a3 76 G4:=a2
abbrev Fe:aU:=a9 9 [4] (b_ (ab 0 [.V (.const (.int .u64 0)),.w 4] 3) (ab 4 [.m 0,.m 1,.c1 85,.B .or,.w 4] 16) aP)
def Ff:a3 84 Fe:=a2
abbrev Fi:aU:=a9 11 [2] (dj (ab 0 [.V (.const (.int .u64 0)),.w 2] 1) (bC 2 [.m 0,.bc .lss 0,.O,.m 0,.bc .gtr 63,.Z] 1 (ab 0 [.V (.const (.int .u64 0)),.w 2] 4)) (ab 8 [.m 0,.p (.cp .shl .none (.const (.int .u64 1))),.w 2] 4) aP)
def Fj:a3 85 Fi:=a2
abbrev Fb:aU:=a9 8 [4] (b_ (ab 0 [.V (.const (.int .u64 0)),.w 4] 3) (ab 4 [.m 0,.m 1,.B .or,.w 4] 16) aP)
def Fc:a3 93 Fb:=a2
abbrev E_:aU:=a9 13 [2] (am (ab 0 [.i 2 0] 1) (.scope 0 [0,3] (am (bS [ca 3 0] [0,3]) (am .label (am (am (bS [a5 4 0,ie 5 (.cp .eql .none (ai 4) (.const (.int .u64 0)))] [0,3,5]) (bM 5 (am (bS [a5 6 3,a5 2 6] [2]) aP) bd)) (am (bS [a5 7 0,a5 8 0,dc 9 (.cp .sub .none (ai 8) (.const (.int .u64 1))),q2 10 .and 7 9,a5 0 10] [0,3]) (am (bS [a5 11 3,iH 12 .add 11 1,a5 3 12] [0,3]) (.goto 0)))))) (am bd (am (am (bS [a5 4 0,ie 5 (.cp .eql .none (ai 4) (.const (.int .u64 0)))] [0,3,5]) (bM 5 (am (bS [a5 6 3,a5 2 6] [2]) aP) bd)) (am (bS [a5 7 0,a5 8 0,dc 9 (.cp .sub .none (ai 8) (.const (.int .u64 1))),q2 10 .and 7 9,a5 0 10] [0,3]) (am (bS [a5 11 3,iH 12 .add 11 1,a5 3 12] [0,3]) (.goto 0)))))))
def Fa:a3 94 E_:=a2
abbrev Fg:aU:=a9 9 [4] (b_ (ab 0 [.u 4] 3) (ab 4 [.m 0,.m 1,.B .andNot,.V (.const (.int .u64 0)),.dA (.cp .eql .none),.b9 4] 16) aP)
def Fh:a3 95 Fg:=a2
abbrev VV:aU:=a9 13 [2] (dj (ab 0 [.V dF,.w 2] 1) (ab 3 [.g (.buildSlice [] 4 0 []),.m 0,.R (ei 6 4 40 4 5),.w 3] 8) (ab 6 [.m 3,.m 3,.N,.m 3,.N,.g (.slice 4 (ai 7) ag (I (ai 9)) (I (ai 11))),.w 2] 4) aP)
def VW:a3 123 VV:=a2
abbrev VR:aU:=a9 13 [2] (dj (ab 0 [.V dF,.w 2] 1) (ab 3 [.g (.buildSlice [] 3 0 []),.m 0,.R (ei 6 3 32 4 5),.w 3] 8) (ab 6 [.m 3,.m 3,.N,.m 3,.N,.g (.slice 3 (ai 7) ag (I (ai 9)) (I (ai 11))),.w 2] 4) aP)
def VS:a3 124 VR:=a2
abbrev VT:aU:=a9 13 [2] (dj (ab 0 [.V dF,.w 2] 1) (ab 3 [.g (.buildSlice [] 8 0 []),.m 0,.R (ei 6 8 80 4 5),.w 3] 8) (ab 6 [.m 3,.m 3,.N,.m 3,.N,.g (.slice 8 (ai 7) ag (I (ai 9)) (I (ai 11))),.w 2] 4) aP)
def VU:a3 125 VT:=a2
abbrev VN:aU:=a9 13 [2] (dj (ab 0 [.V dF,.w 2] 1) (ab 3 [.g (.buildSlice [] 5 0 []),.m 0,.R (ei 6 5 40 4 5),.w 3] 8) (ab 6 [.m 3,.m 3,.N,.m 3,.N,.g (.slice 5 (ai 7) ag (I (ai 9)) (I (ai 11))),.w 2] 4) aP)
def VO:a3 126 VN:=a2
abbrev VL:aU:=a9 13 [2] (dj (ab 0 [.V dF,.w 2] 1) (ab 3 [.g (.buildSlice [] 4 0 []),.m 0,.R (ei 6 4 32 4 5),.w 3] 8) (ab 6 [.m 3,.m 3,.N,.m 3,.N,.g (.slice 4 (ai 7) ag (I (ai 9)) (I (ai 11))),.w 2] 4) aP)
def VM:a3 127 VL:=a2
abbrev VJ:aU:=a9 13 [2] (dj (ab 0 [.V dF,.w 2] 1) (ab 3 [.g (.buildSlice [] 5 0 []),.m 0,.R (ei 6 5 32 4 5),.w 3] 8) (ab 6 [.m 3,.m 3,.N,.m 3,.N,.g (.slice 5 (ai 7) ag (I (ai 9)) (I (ai 11))),.w 2] 4) aP)
def VK:a3 128 VJ:=a2
abbrev VP:aU:=a9 13 [2] (dj (ab 0 [.V dF,.w 2] 1) (ab 3 [.g (.buildSlice [] 6 0 []),.m 0,.R (ei 6 6 56 4 5),.w 3] 8) (ab 6 [.m 3,.m 3,.N,.m 3,.N,.g (.slice 6 (ai 7) ag (I (ai 9)) (I (ai 11))),.w 2] 4) aP)
def VQ:a3 129 VP:=a2
abbrev UR:aU:=a9 18 [4] (dj (ab 0 [.X 2 8 0,.u 4] 6) (am (ab 6 [.m 1,.N,.R (ca 9 0)] 900) (c7 0 900 9 [.v 9,.v 8,.B .lss] (am (ab 10 [.v 9,.D 1 7,.L,.w 6] 964) (bC 12 [.m 6,.H 8 2,.jN (.fM (ai 13) [ai 14]),.T] 900 (ab 0 [.u 4] 16))) 16 [.v 9,.d .add 1,.w 9])) (ab 0 [.t 4] 16) aP)
def US:a3 130 UR:=a2
abbrev UY:aU:=a9 6 [2] (b_ (ab 998 [.X 1 8 0,.u 2] 2) (ab 2 [.dH 6 1,.T,.b9 2] 4) aP)
def UZ:a3 131 UY:=a2
abbrev U0:aU:=a9 11 [3] (b_ (ab 0 [.X 2 8 0,.u 3] 6) (ab 3 [.dH 5 2,.O,.dH 6 1,.T,.Z,.b9 3] 8) aP)
def U1:a3 132 U0:=a2
abbrev U2:aU:=a9 12 [4] (b_ (ab 0 [.X 3 8 0,.u 4] 6) (ab 4 [.dH 2 1,.O,.dH 7 2,.T,.Z,.b9 4] 16) aP)
def U3:a3 133 U2:=a2
abbrev U4:aU:=a9 17 [4] (b_ (ab 0 [.X 3 8 0,.u 4] 6) (ab 4 [.F 8 1,.bc .eql 0,.O,.F 8 1,.F 1 2,.B .shr,.d .and 1,.bc .eql 1,.Z,.b9 4] 16) aP)
def U5:a3 134 U4:=a2
abbrev UV:aU:=a9 18 [6] (b_ (ab 0 [.X 3 9 0,.X 4 10 1,.u 6] 28) (ab 6 [.F 0 3,.x 4 2,.hV 2,.O,.dH 6 4,.T,.Z,.b9 6] 64) aP)
def UW:a3 135 UV:=a2
abbrev Dz:bu:=aS 51 (am (aS 44 (ab 44 [.m 5,.m 8,.B .sub,.v 47,.q (.makeSlice [v0,v0,v0,v0] 4 32),.w 9] 809)) (aS 50 (am (aS 46 (ab 48 [.m 9,.m 0,.m 8,.m 5,.g (.slice 4 (ai 50) (I (ai 51)) (I (ai 52)) ag),.v 49,.v 53,.q (.copy 4)] 777)) (aS 49 (am (aS 48 (e8 58 [.v 0,.w 55,.v 8,.w 56,.v 8,.w 57,.H 4 3,.M 1111 4 1 [(0,4)],.v 9,.w 62,.r (dc 58 (.qd 4 (ai 55) (ai 56) (ai 57))),.R (ei 61 4 32 58 60),.r (ei 63 4 32 61 62),.v 63,.w 4] [(6,[3,4,5]),(0,[5]),(0,[])] 16)) aP)))))
abbrev DA:bu:=aS 53 (b_ (ab 0 [.i 8 0] 297) (cm 2 (eN [0,3,5,8] (am (am (ed 30 [.m 8,.m 5,.a6 .lss,.Y,.m 0,.x 4 8,.h 4,.H 4 3,.c2 174,.bc .lss 0,.Z] [af,af,af,af,af,af,af,af,af,dY,af,af] 4398046511401) (bM 42 bd (dM 2))) (cm 3 (ab 42 [.j 8] 297))))) Dz)
abbrev xd:aU:=a9 64 [4] (el (ab 0 [.X 3 4 1,.V dF,.w 4] 9) (bC 9 [.m 0,.H 4 3,.ba 172] 9 (ab 12 [.m 0,.w 4] 16)) (ab 0 [.i 5 0] 41) (am (ab 13 [.m 0,.N,.R (ca 16 0)] 114729) (c7 0 114729 16 [.v 16,.v 15,.B .lss] (am (ab 17 [.v 16,.D 4 14,.h 4,.K 4 7 1111] 114857) (cK 19 [.H 4 3,.H 4 7,.ba 173,.T] 114857 (am (ab 23 [.m 0,.m 5,.H 4 7,.v 25,.D 4 24,.s 4] 114729) (ab 27 [.j 5] 114729)))) 29 [.v 16,.d .add 1,.w 16])) DA)
def G8:a3 145 xd [(16,[3])]:=a2
abbrev Gm:aU:=⟨68,[(.cell 6 5 U),(.tmp 7),(.tmp 8)],am (ab 0 [.X 3 9 0,.X 4 10 1,.X 5 1 2,.y 6 11111,.V dF,.w 7,.i 8 0] 120) (fx (ab 15 [.H 9 3,.H 1 5,.c2 16,.w 15,.v 15,.e,.w 9,.w 10] 1656) (bC 20 [.m 10,.bc .neq 0] 1656 (ab 22 [.l 11111 [],.m 10,.v 23,.S 5 6,.V dF,.w 7,.w 8] 448)) (ab 25 [.A 5 3,.h 4,.m 9,.c2 17,.w 25,.v 25,.E,.w 11,.w 12,.w 10] 7792) (bC 32 [.m 10,.bc .neq 0] 7792 (ab 34 [.l 11111 [],.m 10,.v 35,.S 5 6,.V dF,.w 7,.w 8] 448)) (e8 36 [.F 2 4,.F 2 4,.m 9,.N,.m 11,.H 1 5,.c1 202,.l 11111 [(4,1),(3,1),(2,1),(1,1),(0,1)],.K 5 13 11111] [(10,[0,1,2,3,4,5,6,7,8,9]),(0,[])] 12384) (am (ab 46 [.F 0 5,.N,.w 14] 28768) (cK 49 [.m 14,.bc .gtr 0] 28768 (e8 51 [.F 0 5,.n 0,.q (.gq 9),.f 6,.F 0 5,.m 14,.d .sub 1,.bt 9,.f 7,.A 0 13,.v 56,.o 1,.A 1 13,.s 1] [(13,[5,6,7,8,9,10,11]),(1,[])] 12352))) (ab 65 [.H 5 13,.m 12,.v 66,.S 5 6,.w 7,.i 8 0] 448) aP)⟩
def Gn:a3 169 Gm [(7,[9998]),(10,[9998])]:=a2
abbrev G0:aU:=a9 28 [4] (am (ab 0 [.X 3 4 1,.u 4] 9) (.scope 0 [0,3,5] (am (bS [AY 5 mK] [0,3,5]) (am .label (am (am (bS [a5 9 0,lM 10 9,ca 11 0] [3,5,9,10,11]) (cm 0 (eN [3,5,9,10,11] (am (bS [q2 12 .lss 11 10] [3,5,9,10,11,12]) (am (bM 12 bd (dM 0)) (am (cm 1 (am (bS [i1 13 4 9 11,hK 14 4 13,k_ 7 [v0,v0,v0,v0],jR 4 7 14] [3,5,7,9,10,11]) (am (am (bS [ca 15 0] [3,5,7,9,10,11,15]) (cm 2 (eN [3,5,7,9,10,11,15] (am (bS [iH 16 .lss 15 4] [3,5,7,9,10,11,15,16]) (am (bM 16 bd (dM 2)) (am (cm 3 (am (bS [a5 17 15,a5 8 17] [3,5,7,8,9,10,11,15]) (am (tU [a5 18 8,dc 19 (.eM 4 1 (ai 7) (ai 18)),dy 20 19,a5 21 8,dc 22 (.eM 4 1 (ai 3) (ai 21)),dy 23 22,o0 24 .gtr 20 23] [af,af,af,af,af,af,af] [3,5,7,9,10,11,15,24]) (bM 24 (dM 1) bd)))) (bS [iH 25 .add 15 1,a5 15 25] [3,5,7,9,10,11,15]))))))) (am (bS [AY 5 jA] [5]) (dM 0))))) (bS [iH 26 .add 11 1,a5 11 26] [3,5,9,10,11]))))))) (am (bS [o2 27 5,o2 4 27] [4]) aP)))) (am bd (am (am (bS [a5 9 0,lM 10 9,ca 11 0] [3,5,9,10,11]) (cm 0 (eN [3,5,9,10,11] (am (bS [q2 12 .lss 11 10] [3,5,9,10,11,12]) (am (bM 12 bd (dM 0)) (am (cm 1 (am (bS [i1 13 4 9 11,hK 14 4 13,k_ 7 [v0,v0,v0,v0],jR 4 7 14] [3,5,7,9,10,11]) (am (am (bS [ca 15 0] [3,5,7,9,10,11,15]) (cm 2 (eN [3,5,7,9,10,11,15] (am (bS [iH 16 .lss 15 4] [3,5,7,9,10,11,15,16]) (am (bM 16 bd (dM 2)) (am (cm 3 (am (bS [a5 17 15,a5 8 17] [3,5,7,8,9,10,11,15]) (am (tU [a5 18 8,dc 19 (.eM 4 1 (ai 7) (ai 18)),dy 20 19,a5 21 8,dc 22 (.eM 4 1 (ai 3) (ai 21)),dy 23 22,o0 24 .gtr 20 23] [af,af,af,af,af,af,af] [3,5,7,9,10,11,15,24]) (bM 24 (dM 1) bd)))) (bS [iH 25 .add 15 1,a5 15 25] [3,5,7,9,10,11,15]))))))) (am (bS [AY 5 jA] [5]) (dM 0))))) (bS [iH 26 .add 11 1,a5 11 26] [3,5,9,10,11]))))))) (am (bS [o2 27 5,o2 4 27] [4]) aP)))))
def G1:a3 172 G0:=a2
abbrev G2:aU:=a9 13 [4] (b_ (ab 0 [.X 2 4 0,.X 3 4 1,.u 4] 12) (ab 4 [.H 4 2,.H 4 3,.dA (.cp .neq (.cells [.int,.int,.int,.int])),.Y,.H 4 2,.H 4 3,.ba 203,.Z,.b9 4] 16) aP)
def G3:a3 173 G2:=a2
abbrev GY:aU:=a9 27 [4] (el (ab 0 [.X 2 4 0,.X 3 4 1,.i 4 0] 12) (bC 5 [.H 4 2,.H 4 3,.dA (.cp .eql (.cells [.int,.int,.int,.int]))] 12 (ab 0 [.i 4 0] 16)) (am (ab 0 [.i 9 0] 524) (c7 0 524 9 [.v 9,.d .lss 4] (dj (ab 10 [.m 9,.w 5] 556) (am (eh 11 [.m 5,.v 2,.v 12,.q (.eM 4 1),.L,.m 5,.v 3,.v 15,.q (.eM 4 1),.L,.v 14,.v 17,.a6 .lss] 262700) (bM 18 (am (ab 0 [.i 4 (-1)] 16) aP) bd)) (eh 18 [.m 5,.v 2,.v 19,.q (.eM 4 1),.L,.m 5,.v 3,.v 22,.q (.eM 4 1),.L,.v 21,.v 24,.a6 .gtr] 33554956) (bM 25 (am (ab 0 [.i 4 1] 16) aP) bd)) 25 [.v 9,.d .add 1,.w 9])) (ab 0 [.i 4 0] 16) aP)
def GZ:a3 174 GY:=a2
abbrev Gv:aU:=a9 44 [2] (el (ab 998 [.X 1 1 0,.i 2 0] 2) (ab 0 [.i 3 0] 10) (am (ab 5 [.F 0 1,.N,.R (ca 9 0)] 904) (c7 0 904 9 [.v 9,.v 8,.B .lss] (b_ (ab 10 [.v 9,.D 9 7,.h 9,.K 9 5 311111113] 936) (cK 12 [.dH 0 5,.O,.F 6 5,.bc .lss 0,.Z,.O,.F 7 5,.F 6 5,.a6 .lss,.Z,.O,.F 7 5,.F 6 5,.B .sub,.bc .gtr 14400,.Z] 936 (dM 1)) (ab 34 [.m 3,.F 7 5,.F 6 5,.B .sub,.B .add,.w 3] 904)) 41 [.v 9,.d .add 1,.w 9])) (ab 42 [.m 3,.w 2] 4) aP)
def Gw:a3 202 Gv:=a2
abbrev G6:aU:=a9 17 [4] (dj (ab 0 [.X 2 4 0,.X 3 4 1,.u 4] 12) (am (ab 0 [.i 6 0] 76) (c7 0 76 6 [.v 6,.d .lss 4] (b_ (ab 7 [.m 6,.w 5] 108) (eh 8 [.m 5,.v 2,.v 9,.q (.eM 4 1),.L,.m 5,.v 3,.v 12,.q (.eM 4 1),.L,.v 11,.v 14,.a6 .gtr] 32844) (bM 15 (am (ab 0 [.u 4] 16) aP) bd)) 15 [.v 6,.d .add 1,.w 6])) (ab 0 [.t 4] 16) aP)
def G7:a3 203 G6:=a2
end
noncomputable section
abbrev Fu:aU:=a9 47 [4,5,6] (fx (ab 0 [.X 2 4 0,.i 4 0,.V dF,.w 5,.i 6 0] 6) (am (ab 10 [.H 4 2,.m 1,.c2 42,.w 7] 134) (bC 13 [.m 7,.bc .neq 0] 134 (ab 15 [.m 7,.i 4 0,.V dF,.w 5,.w 6] 112))) (ab 16 [.H 4 2,.m 1,.c2 43,.K 63 8 311111131111113111111311111131111113111111311111131111113111111] 262) (bC 19 [.v 8,.n 0,.q (.eM 9 7),.hV 0,.T] 262 (ab 0 [.i 4 0,.V dF,.w 5,.i 6 34] 112)) (ab 8 [.g (.lL 4)] 774) (am (ab 0 [.i 10 0] 1798) (e9 0 1798 23 [.m 10,.m 1,.N,.a6 .lss] (ab 33 [.m 9,.m 10,.v 8,.v 35,.q (.eM 9 7),.a 3,.h 4,.M 1111 4 1 [(0,4)],.R (ei 40 4 32 34 39),.w 9] 1798) 27 [.m 10,.v 8,.v 28,.q (.eM 9 7),.a 3,.f 2,.d .add 1,.w 10])) (ab 40 [.H 4 2,.v 8,.n 0,.q (.eM 9 7),.f 1,.c2 44,.m 9,.v 45,.w 4,.w 5,.i 6 0] 112) aP)
def Fv:a3 17 Fu [(7,[0])]:=a2
abbrev DD:bu:=aS 15 (ab 18 [.v 6,.l 5511111111111111 [(0,1)],.R (q4 20 16 19),.w 2,.i 3 0] 12)
theorem Th(P:Program)(Q:Exit->av->Mem->Prop)(s:av)(M:Mem):ck P DD Q s M=@kM P [dc 19 (.build [.db,.db,v0,v0,v0,v0,v0,v0,v0,v0,v0,v0,v0,v0,v0,v0] [(0,(1,(ai 6)))]),q4 20 16 19,a5 2 20,ca 3 0] M ⟨s,λb a=>Q .normal (fQ b [2,3]) a⟩:=rfl
abbrev FK:aU:=a9 21 [2,3] (gr (ab 998 [.X 1 4 0,.V (.const .db),.w 2,.i 3 0] 2) (am (ab 7 [.H 4 1,.c1 46,.w 7,.v 7,.e,.w 4,.w 5] 34) (bC 11 [.m 5,.bc .neq 0] 2 (ab 0 [.V (.const .db),.w 2,.i 3 20] 12))) (ab 13 [.H 4 1,.K 4 6 4111] 66) (ab 14 [.F 0 1,.p (.append U 6 56 dF),.A 0 6,.s 1] 64) DD aP)
def FL:a3 19 FK:=a2
abbrev DF:bu:=aS 65 (ab 101 [.m 6,.w 4,.i 5 0] 48)
theorem Ti(P:Program)(Q:Exit->av->Mem->Prop)(s:av)(M:Mem):ck P DF Q s M=@kM P [a5 102 6,a5 4 102,ca 5 0] M ⟨s,λb a=>Q .normal (fQ b [4,5]) a⟩:=rfl
abbrev FO:aU:=a9 103 [4,5] (b_ (ab 0 [.X 3 4 1,.V (.const .db),.w 4,.i 5 0] 9) (bC 12 [.m 0,.V (.const .db),.dA (.cp .eql .ptr)] 9 (ab 0 [.V (.const .db),.w 4,.i 5 40] 48)) (fx (bC 14 [.P 0 6,.bc .geq 8] 9 (ab 0 [.V (.const .db),.w 4,.i 5 33] 48)) (ed 19 [.P 0 0,.m 0,.H 4 3,.P 0 6,.d .add 1,.m 0,.C,.a 7,.h 9,.l 5511111111111111 [(7,9),(6,1),(2,4),(1,1),(0,1)],.R (q4 36 16 35),.w 6] [af,af,af,af,af,af,af,af,af,af,af,af,af,af,af,af,dY,af] 65) (ab 36 [.m 6,.c1 47,.w 7] 193) (ab 0 [.i 8 (-1)] 449) (am (ab 38 [.m 7,.N,.R (ca 41 0)] 3298534883777) (c7 0 3298534883777 41 [.v 41,.v 40,.B .lss] (b_ (ab 42 [.m 41,.w 9] 3298534884289) (ab 43 [.P 0 0,.C,.f 0,.N,.R (ca 52 0)] 7884597882782657) (c7 2 7884597882782657 52 [.v 52,.v 51,.B .lss] (dj (ab 53 [.v 52,.D 6 50,.h 6,.K 6 11 211111] 7884597882784705) (am (ed 55 [.m 6,.m 9,.v 56,.C,.a 7,.v 57,.q (.eM 9 1),.L,.bc .lss 0,.O,.H 6 11,.m 7,.m 9,.g (.slice 4 (ai 65) (I (ai 66)) ag ag),.v 64,.v 67,.ba 48,.T,.Z] [af,af,af,af,af,af,af,af,af,af,af,af,dY,af,af] 1180599505315294088129) (bM 70 (dM 3) bd)) (e8 70 [.m 6,.m 9,.v 71,.C,.a 7,.v 72,.q (.eM 9 1),.L,.m 6,.H 6 11,.m 7,.m 9,.c 49 [ai 77,ai 78,ai 79,ai 80],.v 76,.v 81,.B .add,.w 12] [(10,[0,1,2,3,4,5])] 7884597882786753) (cK 82 [.m 8,.bc .lss 0,.O,.m 12,.m 8,.a6 .lss,.Z] 7884597882786753 (ab 89 [.m 12,.w 8] 7884597882782657))) 90 [.v 52,.d .add 1,.w 52])) 91 [.v 41,.d .add 1,.w 41])) (ed 92 [.m 6,.P 6 6,.m 8,.v 93,.C,.a 7,.v 97,.q (.eM 9 1),.s 1] [af,af,af,af,af,af,af,af,af,dY] 64) DF aP))
def FP:a3 20 FO [(15,[9999])]:=a2
abbrev FG:aU:=a9 17 [4] (el (ab 0 [.X 2 4 0,.i 4 0] 6) (am (ab 7 [.H 4 2,.c1 46,.w 7,.v 7,.e,.w 5,.w 6] 66) (bC 11 [.m 6,.bc .neq 0] 2 (ab 0 [.i 4 20] 16))) (bC 13 [.m 1,.N,.bc .gtr 8] 0 (ab 0 [.i 4 33] 16)) (ab 0 [.i 4 0] 16) aP)
def FH:a3 42 FG:=a2
abbrev Fy:aU:=⟨47,[(.cell 4 63 U)],fx (ab 0 [.X 2 4 0,.X 3 1 1,.y 4 311111131111113111111311111131111113111111311111131111113111111] 28) (ab 0 [.y 5 311111131111113111111311111131111113111111311111131111113111111] 60) (ab 10 [.v 3,.L,.N,.w 6] 124) (ab 12 [.m 6,.v 5,.v 13,.q (.eM 9 7),.a 0,.G (.store 1 (ai 15) jA)] 124) (ab 15 [.g (.jQ 86 [ai 2,ai 3,ai 5]),.w 7] 244) (am (ab 16 [.m 6,.d .sub 1,.w 8] 500) (e9 0 500 18 [.m 8,.bc .geq 0] (am (ab 22 [.m 8,.w 9] 1012) (e9 2 1012 23 [.m 9,.m 6,.a6 .lss] (am (ab 28 [.F 0 2,.N,.R (ca 32 0)] 6442451956) (c7 4 6442451956 32 [.v 32,.v 31,.B .lss] (am (ab 33 [.m 32,.w 10] 6442452980) (cK 34 [.m 9,.d .add 1,.v 5,.v 36,.q (.eM 9 7),.hV 0] 6442452980 (ab 39 [.m 7,.m 8,.m 9,.m 10,.g (.fM (ai 40) [ai 41,ai 42,ai 43])] 6442451956))) 44 [.v 32,.d .add 1,.w 32])) 26 [.j 9])) 20 [.m 8,.d .sub 1,.w 8])) (ab 45 [.H 63 5,.S 63 4] 16) aP⟩
def FB:a3 43 Fy:=a2
abbrev Fw:aU:=a9 17 [4] (dj (ab 0 [.X 2 4 0,.i 4 0] 6) (bC 4 [.F 3 2,.bc .gtr 0,.Y,.m 1,.F 3 2,.a6 .gtr,.Z] 6 (ab 13 [.F 3 2,.w 4] 16)) (ab 15 [.m 1,.w 4] 16) aP)
def Fx:a3 44 Fw:=a2
abbrev G9:aU:=a9 79 [2,3] (nW (ab 998 [.X 1 4 0,.i 2 0,.i 3 0] 2) (bC 6 [.F 1 1,.n 0,.n 1000000,.bA 89,.T,.O,.F 2 1,.n 0,.n 86400,.bA 89,.T,.Z,.O,.F 3 1,.n 0,.n 1000000,.bA 89,.T,.Z] 2 (ab 0 [.i 2 (-1),.i 3 2] 12)) (bC 22 [.F 0 1,.N,.bc .gtr 16] 2 (ab 0 [.i 2 0,.i 3 5] 12)) (ab 26 [.g (.makeMap ag),.w 4] 18) (am (ab 27 [.F 0 1,.N,.R (ca 31 0)] 3758096400) (c7 0 3758096400 31 [.v 31,.v 30,.B .lss] (el (ab 32 [.m 31,.v 31,.D 6 29,.h 6,.y 6 211111,.v 33,.w 5,.S 6 6] 3758096496) (bC 35 [.F 0 6,.aD 90,.T] 3758096496 (ab 39 [.m 5,.w 2,.i 3 12] 12)) (bC 40 [.m 4,.F 0 6,.dA (.lookup .str [eR] ad ad)] 3758096496 (ab 44 [.m 5,.w 2,.i 3 6] 12)) (bC 45 [.F 1 6,.n 0,.n 1000000,.bA 89,.T,.O,.F 2 6,.n 1,.n 8,.bA 89,.T,.Z,.O,.F 3 6,.n 1,.n 16,.bA 89,.T,.Z,.O,.F 4 6,.n 0,.n 86400,.bA 89,.T,.Z,.O,.F 5 6,.n 1,.n 255,.bA 89,.T,.Z] 3758096496 (ab 73 [.m 5,.w 2,.i 3 2] 12)) (ab 74 [.m 4,.F 0 6,.G (.mapUpdate .str (ai 75) (ai 77) jA)] 3758096400)) 77 [.v 31,.d .add 1,.w 31])) (ab 0 [.i 2 0,.i 3 0] 12) aP)
def G_:a3 46 G9:=a2
abbrev FQ:aU:=a9 31 [2] (el (ab 0 [.V dF,.w 2] 1) (ab 4 [.P 0 6,.v 8,.q (.makeSlice [v0,v0,v0,v0] 4 32),.w 3] 9) (am (ab 9 [.P 0 6,.d .sub 1,.w 4] 25) (e9 0 25 14 [.m 4,.bc .geq 0] (am (ab 18 [.m 3,.m 4,.m 0,.C,.a 2,.h 4,.v 20,.D 4 19,.s 4] 25) (ab 25 [.P 0 1,.w 0] 25)) 16 [.m 4,.d .sub 1,.w 4])) (ab 29 [.m 3,.w 2] 4) aP)
def FR:a3 47 FQ:=a2
abbrev Ha:aU:=a9 59 [4] (fx (ab 0 [.X 2 6 0,.u 4] 6) (ab 10 [.m 1,.N,.w 5] 38) (am (ed 12 [.m 5,.bc .eql 0,.O,.m 5,.F 2 2,.a6 .gtr,.Z,.O,.m 1,.n 0,.q (.gq 4),.f 0,.m 1,.m 5,.d .sub 1,.bt 4,.f 0,.F 4 2,.bA 91,.Z] [af,af,af,af,af,af,af,af,af,af,af,af,af,af,af,af,af,af,af,af,af,dY,af] 34359738374) (bM 35 (am (ab 0 [.u 4] 16) aP) bd)) (ab 0 [.z 6 [.int .u64 0],.z 7 [.int .u64 0]] 198) (ab 35 [.g (.jQ 92 [ai 6,ai 7]),.w 8] 454) (am (ab 36 [.m 1,.N,.R (ca 39 0)] 962072674756) (c7 0 962072674756 39 [.v 39,.v 38,.B .lss] (am (ab 40 [.v 39,.D 4 37,.h 4,.K 4 10 1111] 962072675780) (ab 42 [.m 8,.H 4 10,.g (.fM (ai 43) [ai 44])] 962072674756)) 45 [.v 39,.d .add 1,.w 39])) (ed 46 [.v 6,.L,.c1 94,.F 3 2,.a6 .leq,.Y,.v 7,.L,.F 5 2,.p (.conv .u64),.ba 95,.Z,.b9 4] [af,af,af,af,af,af,af,af,af,af,dY,af,af] 16) aP)
def Hd:a3 48 Ha:=a2
abbrev FT:aU:=a9 45 [8] (dj (ab 0 [.X 5 6 1,.i 8 0] 45) (am (ed 8 [.m 3,.bc .gtr 0,.Y,.m 2,.m 3,.d .sub 1,.bt 4,.f 1,.m 2,.x 4 3,.f 0,.P 0 0,.C,.f 2,.bA 96,.Z] [af,af,af,af,af,af,af,af,af,af,af,af,af,af,af,af,af,af,af,af,af,dY,af] 2147483681) (bM 31 (am (eh 31 [.F 1 5,.P 0 0,.C,.f 1,.B .sub,.p (.k7 U (f9 0)),.w 8] 256) aP) bd)) (ab 42 [.F 1 5,.w 8] 256) aP)
def FU:a3 49 FT:=a2
abbrev Fz:aU:=a9 62 [] (dj (am (ed 11 [.F 0 3,.x 6 2,.h 6,.v 4,.L,.m 0,.m 1,.d .add 1,.g (.slice 4 (ai 17) (I (ai 18)) (I (ai 20)) ag),.v 16,.v 21,.ba 48,.T] [af,af,af,af,af,af,af,af,af,af,dY,af] 8388671) (bM 23 aP bd)) (ed 23 [.H 4 3,.F 0 3,.x 6 2,.h 6,.v 4,.L,.m 0,.c 87 [ai 24,ai 29,ai 30,ai 31],.w 9] [af,af,af,af,af,af,af,af,dY,af] 551) (eh 32 [.m 9,.m 1,.d .add 1,.v 5,.v 35,.q (.eM 9 7),.f 1,.v 33,.v 38,.B .add,.m 1,.d .add 1,.v 5,.v 41,.q (.eM 9 7),.f 2,.d .add 1,.v 39,.w 10,.w 11] 3623) (cK 45 [.m 0,.v 5,.v 46,.q (.eM 9 7),.h 7,.m 10,.m 11,.bA 88] 3623 (ab 51 [.m 0,.m 10,.m 11,.m 2,.m 0,.m 1,.m 9,.l 1111 [(3,1),(2,1),(1,1),(0,1)],.V (.const (.bool U)),.v 53,.v 54,.v 59,.l 3111111 [(3,4),(2,1),(1,1),(0,1)],.v 5,.v 52,.q (.eM 9 7),.s 7] 0)))
def FA:a3 86 Fz:=a2
abbrev FE:aU:=a9 35 [8] (dj (ab 0 [.X 4 4 0,.X 5 6 1,.i 8 0] 60) (am (ed 8 [.m 3,.bc .gtr 0,.Y,.m 2,.m 3,.d .sub 1,.bt 4,.f 1,.m 2,.x 4 3,.f 0,.F 2 4,.bA 151,.Z] [af,af,af,af,af,af,af,af,af,af,af,af,af,af,af,af,dY,af] 67108912) (bM 26 (am (ab 26 [.F 1 5,.F 1 4,.B .sub,.p (.k7 U (f9 0)),.w 8] 256) aP) bd)) (ab 32 [.F 1 5,.w 8] 256) aP)
def FF:a3 87 FE:=a2
abbrev FC:aU:=a9 28 [6] (b_ (ab 0 [.X 3 7 0,.u 6] 14) (ab 6 [.dH 0 3,.T,.O,.m 1,.F 1 3,.a6 .lss,.Z,.O,.m 1,.F 1 3,.a6 .eql,.Y,.m 2,.F 2 3,.a6 .lss,.Z,.Z,.b9 6] 64) aP)
def FD:a3 88 FC:=a2
abbrev Hg:aU:=a9 15 [6] (b_ (ab 0 [.u 6] 7) (ab 6 [.m 0,.m 1,.a6 .geq,.Y,.m 0,.m 2,.a6 .leq,.Z,.b9 6] 64) aP)
def Hh:a3 89 Hg:=a2
abbrev He:aU:=a9 35 [6] (dj (ab 0 [.u 6] 7) (bC 6 [.m 1,.m 0,.a6 .geq] 7 (ab 9 [.m 2,.bc .lss 0,.O,.m 1,.p (.conv .u64),.m 0,.p (.conv .u64),.B .sub,.m 2,.p (.conv .u64),.a6 .gtr,.Z,.b9 6] 64)) (ab 21 [.m 2,.bc .lss 0,.Y,.m 0,.p (.conv .u64),.m 1,.p (.conv .u64),.B .sub,.m 2,.p (.conv .u64),.p (.un .neg),.a6 .lss,.Z,.b9 6] 64) aP)
def Hf:a3 91 He:=a2
abbrev Hb:aU:=a9 14 [] (b_ (ab 0 [.X 3 4 0] 14) (ab 3 [.v 1,.L,.F 2 3,.p (.conv .u64),.c2 93,.S 1 1] 12) (ab 8 [.v 2,.L,.F 3 3,.p (.conv .u64),.c2 93,.S 1 2] 0))
def Hc:a3 92 Hb:=a2
abbrev F3:aU:=a9 20 [6] (b_ (ab 0 [.u 6] 7) (ab 6 [.m 1,.m 0,.a6 .leq,.O,.m 1,.p (.conv .u64),.m 0,.p (.conv .u64),.B .sub,.m 2,.p (.conv .u64),.a6 .leq,.Z,.b9 6] 64) aP)
def F4:a3 96 F3:=a2
abbrev FI:aU:=a9 20 [6] (b_ (ab 0 [.u 6] 7) (ab 6 [.m 1,.m 0,.a6 .leq,.O,.m 1,.p (.conv .u64),.m 0,.p (.conv .u64),.B .sub,.m 2,.p (.conv .u64),.a6 .leq,.Z,.b9 6] 64) aP)
def FJ:a3 151 FI:=a2
abbrev GQ:aU:=a9 8 [2] (dj (ab 0 [.i 2 0] 1) (.cond (.const (.bool ad)) (am (bS [a5 3 0,dc 4 (.conv .u32 (ai 3)),i0 5 186 [ai 4],a5 2 5] [2]) aP) bd) (ab 5 [.m 0,.c1 187,.w 2] 4) aP)
def GV:a3 153 GQ:=a2
abbrev FM:aU:=a9 60 [4] (gr (ab 0 [.u 4] 3) (am (ed 10 [.m 0,.V (.const .db),.dA (.cp .eql .ptr),.O,.m 1,.V (.const .db),.dA (.cp .eql .ptr),.Z,.O,.P 0 0,.P 1 0,.ba 197,.T,.Z,.O,.m 0,.m 1,.ba 198,.T,.Z] [af,af,af,af,af,af,af,af,af,af,af,af,af,af,af,dY,af,af,af,af,af,dY,af,af] 17179869187) (bM 34 (am (ab 0 [.u 4] 16) aP) bd)) (ab 34 [.m 0,.c1 199,.w 5] 34) (am (ab 36 [.m 1,.c1 199,.N,.R (ca 40 0)] 1924145348640) (c7 0 1924145348640 40 [.v 40,.v 39,.B .lss] (dj (ab 41 [.v 40,.D 5 38,.h 5,.W 5 7 [v0,v0,v0,v0,.int .u64 0]] 1924145348768) (ab 0 [.u 8] 1924145349024) (am (ab 43 [.m 5,.N,.R (ca 46 0)] 125069447659936) (c7 2 125069447659936 46 [.v 46,.v 45,.B .lss] (am (ab 47 [.v 46,.D 5 44,.h 5,.W 5 10 [v0,v0,v0,v0,.int .u64 0]] 125069447660960) (ab 49 [.fX 8,.O,.H 5 10,.H 5 7,.ba 200,.Z,.b9 8] 125069447659936)) 55 [.v 46,.d .add 1,.w 46])) (bC 56 [.fX 8,.T] 1924145348640 (ab 0 [.u 4] 16))) 58 [.v 40,.d .add 1,.w 40])) (ab 0 [.t 4] 16) aP)
def FN:a3 165 FM:=a2
abbrev RF:bu:=ab 12 [.m 2,.m 0,.p (.conv .u8),.p (.mq (.const (.str [0,1,2,2,3,3,3,3,4,4,4,4,4,4,4,4,5,5,5,5,5,5,5,5,5,5,5,5,5,5,5,5,6,6,6,6,6,6,6,6,6,6,6,6,6,6,6,6,6,6,6,6,6,6,6,6,6,6,6,6,6,6,6,6,7,7,7,7,7,7,7,7,7,7,7,7,7,7,7,7,7,7,7,7,7,7,7,7,7,7,7,7,7,7,7,7,7,7,7,7,7,7,7,7,7,7,7,7,7,7,7,7,7,7,7,7,7,7,7,7,7,7,7,7,7,7,7,7,8,8,8,8,8,8,8,8,8,8,8,8,8,8,8,8,8,8,8,8,8,8,8,8,8,8,8,8,8,8,8,8,8,8,8,8,8,8,8,8,8,8,8,8,8,8,8,8,8,8,8,8,8,8,8,8,8,8,8,8,8,8,8,8,8,8,8,8,8,8,8,8,8,8,8,8,8,8,8,8,8,8,8,8,8,8,8,8,8,8,8,8,8,8,8,8,8,8,8,8,8,8,8,8,8,8,8,8,8,8,8,8,8,8,8,8,8,8,8,8,8,8,8,8,8,8,8,8]))),.p (.conv .i64),.B .add,.w 2] 4
abbrev GR:aU:=a9 19 [2] (el (ab 0 [.i 2 0] 5) (cK 2 [.m 0,.V (.const (.int .u32 65536)),.dA (.cp .geq .none)] 5 (am (ab 4 [.m 0,.V (.const (.int .u64 16)),.q (.cp .shr .none),.w 0] 1) (ab 0 [.i 2 16] 5))) (cK 6 [.m 0,.V (.const (.int .u32 256)),.dA (.cp .geq .none)] 5 (am (ab 8 [.m 0,.V (.const (.int .u64 8)),.q (.cp .shr .none),.w 0] 5) (ab 10 [.m 2,.d .add 8,.w 2] 5))) RF aP)
def Vw:a3 186 GR:=a2
abbrev RG:bu:=ab 18 [.m 2,.m 0,.p (.conv .u8),.p (.mq (.const (.str [0,1,2,2,3,3,3,3,4,4,4,4,4,4,4,4,5,5,5,5,5,5,5,5,5,5,5,5,5,5,5,5,6,6,6,6,6,6,6,6,6,6,6,6,6,6,6,6,6,6,6,6,6,6,6,6,6,6,6,6,6,6,6,6,7,7,7,7,7,7,7,7,7,7,7,7,7,7,7,7,7,7,7,7,7,7,7,7,7,7,7,7,7,7,7,7,7,7,7,7,7,7,7,7,7,7,7,7,7,7,7,7,7,7,7,7,7,7,7,7,7,7,7,7,7,7,7,7,8,8,8,8,8,8,8,8,8,8,8,8,8,8,8,8,8,8,8,8,8,8,8,8,8,8,8,8,8,8,8,8,8,8,8,8,8,8,8,8,8,8,8,8,8,8,8,8,8,8,8,8,8,8,8,8,8,8,8,8,8,8,8,8,8,8,8,8,8,8,8,8,8,8,8,8,8,8,8,8,8,8,8,8,8,8,8,8,8,8,8,8,8,8,8,8,8,8,8,8,8,8,8,8,8,8,8,8,8,8,8,8,8,8,8,8,8,8,8,8,8,8,8,8,8,8,8,8]))),.p (.conv .i64),.B .add,.w 2] 4
abbrev GS:aU:=a9 25 [2] (gr (ab 0 [.i 2 0] 5) (cK 2 [.m 0,.V (.const (.int .u64 4294967296)),.dA (.cp .geq .none)] 5 (am (ab 4 [.m 0,.V (.const (.int .u64 32)),.q (.cp .shr .none),.w 0] 1) (ab 0 [.i 2 32] 5))) (cK 6 [.m 0,.V (.const (.int .u64 65536)),.dA (.cp .geq .none)] 5 (am (ab 8 [.m 0,.V (.const (.int .u64 16)),.q (.cp .shr .none),.w 0] 5) (ab 10 [.m 2,.d .add 16,.w 2] 5))) (cK 12 [.m 0,.V (.const (.int .u64 256)),.dA (.cp .geq .none)] 5 (am (ab 14 [.m 0,.V (.const (.int .u64 8)),.q (.cp .shr .none),.w 0] 5) (ab 16 [.m 2,.d .add 8,.w 2] 5))) RG aP)
def GU:a3 187 GS:=a2
abbrev F1:aU:=a9 74 [4] (gr (ab 0 [.u 4] 3) (bC 6 [.m 0,.m 1,.dA (.lO ad)] 3 (ab 0 [.t 4] 16)) (am (eh 9 [.P 0 0,.N,.P 1 0,.N,.a6 .neq,.O,.P 0 1,.P 1 1,.a6 .neq,.Z,.O,.P 0 2,.P 1 2,.a6 .neq,.Z,.O,.P 0 3,.P 1 3,.a6 .neq,.Z] 9007199254740995) (bM 53 (am (ab 0 [.u 4] 16) aP) bd)) (am (ab 53 [.P 0 0,.N,.R (ca 59 0)] 1008806316530991106) (c7 0 1008806316530991106 59 [.v 59,.v 58,.B .lss] (b_ (ab 60 [.m 59,.v 59,.D 6 57,.h 6,.y 6 211111,.v 61,.w 5,.S 6 6] 1008806316530991202) (eh 63 [.H 6 6,.P 1 0,.x 6 5,.h 6,.dA (.cp .neq (.cells [.str,.int,.int,.int,.int,.int]))] 4723375289186176204802) (bM 72 (am (ab 0 [.u 4] 16) aP) bd)) 72 [.v 59,.d .add 1,.w 59])) (ab 0 [.t 4] 16) aP)
def F2:a3 197 F1 [(1,[2])]:=a2
abbrev FX:aU:=a9 83 [4] (el (ab 0 [.u 4] 3) (eh 6 [.m 0,.P 0 6,.v 7,.C,.a 7,.v 11,.q (.eM 9 1),.L,.m 1,.P 1 6,.v 16,.C,.a 7,.v 20,.q (.eM 9 1),.L,.v 15,.w 5,.w 6] 99) (cm 0 (am (ab 25 [.m 6,.bc .lss 0,.b9 25] 33554531) (bM 25 (am (ab 0 [.t 4] 16) aP) (am (ab 28 [.m 5,.bc .lss 0,.O,.m 5,.m 6,.a6 .gtr,.Z,.b9 28] 268435555) (bM 28 (am (ab 0 [.u 4] 16) aP) (am (ab 36 [.P 0 0,.C,.f 1,.bc .eql 0,.O,.P 1 6,.bc .eql 0,.Z,.O,.m 5,.P 0 0,.C,.f 1,.B .add,.m 6,.a6 .leq,.Z,.b9 36] 68719476739) (bM 36 (am (ab 0 [.t 4] 16) aP) bd))))))) (eh 64 [.P 0 6,.bc .gtr 0,.Y,.m 0,.C,.a 2,.f 1,.m 1,.C,.a 2,.f 1,.a6 .geq,.Z,.b9 4] 16) aP)
def FY:a3 198 FX:=a2
abbrev RH:bu:=ed 79 [.m 3,.m 10,.m 4,.x 4 5,.f 0,.m 4,.N,.m 5,.B .sub,.m 0,.m 5,.v 91,.C,.a 7,.v 92,.q (.eM 9 1),.L,.m 0,.H 6 11,.m 4,.m 5,.c 49 [ai 97,ai 98,ai 99,ai 100],.v 96,.v 101,.B .add,.m 6,.g (.build [v0,v0,v0,v0,.int .u64 0] [(0,(1,(ai 81))),(1,(1,(ai 86))),(2,(1,(ai 90))),(3,(1,(ai 102))),(4,(1,(ai 103)))]),.g (.buildSlice [v0,v0,v0,v0,.int .u64 0] 5 1 [(0,(5,(ai 104)))]),.R (ei 106 5 40 80 105),.w 3] [af,af,af,af,af,af,af,af,af,af,af,af,af,af,af,af,af,af,af,af,af,af,af,af,af,af,dY,af] 15762598695895289
abbrev FV:aU:=a9 110 [2] (gr (ab 0 [.V dF,.w 2] 1) (ab 2 [.g (.lL 5)] 9) (ab 11 [.m 0,.c1 47,.w 4] 25) (am (ab 13 [.m 4,.N,.R (ca 16 0)] 98329) (c7 0 98329 16 [.v 16,.v 15,.B .lss] (gr (ab 17 [.m 16,.w 5] 98361) (cK 18 [.m 0,.m 5,.v 19,.C,.a 7,.v 20,.q (.eM 9 1),.L,.bc .lss 0] 98361 (dM 1)) (ab 0 [.V (.const (.int .u64 0)),.w 6,.V (.const (.int .u64 0)),.w 7] 98553) (am (ab 25 [.m 4,.m 5,.g (.slice 4 (ai 26) (I (ai 27)) ag ag),.N,.R (ca 30 0)] 1879146745) (c7 2 1879146745 30 [.v 30,.v 29,.B .lss] (b_ (ab 31 [.v 30,.D 4 28,.h 4,.K 4 9 1111] 1879147257) (ab 33 [.m 6,.F 2 9,.p (.conv .u64),.B .or,.w 6] 1879147257) (ab 38 [.m 7,.F 3 9,.p (.conv .u64),.B .or,.w 7] 1879146745)) 43 [.v 30,.d .add 1,.w 30])) (ab 44 [.P 0 0,.C,.f 0,.N,.R (ca 53 0)] 15762598695895289) (c7 4 15762598695895289 53 [.v 53,.v 52,.B .lss] (b_ (ab 54 [.m 53,.v 53,.D 6 51,.h 6,.y 11 211111,.v 55,.w 10,.S 6 11] 15762598695898361) (eh 57 [.m 4,.N,.m 5,.B .sub,.F 2 11,.a6 .lss,.Y,.m 6,.c1 216,.F 3 11,.a6 .leq,.Z,.Y,.m 7,.F 5 11,.p (.conv .u64),.B .andNot,.V (.const (.int .u64 0)),.dA (.cp .eql .none),.Z] 604462925569913283251449) (bM 79 RH bd)) 106 [.v 53,.d .add 1,.w 53])) 107 [.v 16,.d .add 1,.w 16])) (ab 108 [.m 3,.w 2] 4) aP)
def FW:a3 199 FV [(1,[0])]:=a2
abbrev FZ:aU:=a9 39 [4] (b_ (ab 0 [.X 2 5 0,.X 3 5 1,.u 4] 12) (ab 4 [.F 0 2,.F 0 3,.a6 .eql,.Y,.F 1 2,.F 1 3,.a6 .geq,.Z,.Y,.F 2 2,.F 2 3,.a6 .leq,.Z,.Y,.F 3 2,.F 3 3,.a6 .leq,.Z,.Y,.F 4 2,.F 4 3,.B .andNot,.V (.const (.int .u64 0)),.dA (.cp .eql .none),.Z,.b9 4] 16) aP)
def F0:a3 200 FZ:=a2
abbrev GW:aU:=a9 35 [2] (am (ab 0 [.i 2 0] 1) (fx (ab 2 [.m 0,.V (.const (.int .u64 1)),.q (.cp .shr .none),.V (.const (.int .u64 6148914691236517205)),.q (.cp .and .none),.m 0,.V (.const (.int .u64 6148914691236517205)),.q (.cp .and .none),.B .add,.w 0] 1) (ab 8 [.m 0,.V (.const (.int .u64 2)),.q (.cp .shr .none),.V (.const (.int .u64 3689348814741910323)),.q (.cp .and .none),.m 0,.V (.const (.int .u64 3689348814741910323)),.q (.cp .and .none),.B .add,.w 0] 1) (ab 14 [.m 0,.V (.const (.int .u64 4)),.q (.cp .shr .none),.m 0,.B .add,.V (.const (.int .u64 1085102592571150095)),.q (.cp .and .none),.w 0] 1) (ab 19 [.m 0,.m 0,.V (.const (.int .u64 8)),.q (.cp .shr .none),.B .add,.w 0] 1) (ab 23 [.m 0,.m 0,.V (.const (.int .u64 16)),.q (.cp .shr .none),.B .add,.w 0] 1) (ab 27 [.m 0,.m 0,.V (.const (.int .u64 32)),.q (.cp .shr .none),.B .add,.w 0] 1) (ab 31 [.m 0,.p (.conv .i64),.d .and 127,.w 2] 4) aP))
def GX:a3 216 GW:=a2
end
structure aZ where
 stop:Int
 aQ:Int
 aR:Int
 cM:Bool
 ct:Bool
def aZ.row(c:aZ):List V:=[aa c.stop,aa c.aQ,aa c.aR,.bool c.cM,.bool c.ct]
def aZ.wf(c:aZ):Prop:=dd c.stop/\dd c.aQ/\dd c.aR
def e4(n low high:Int):Bool:=decide (low<=n)&&decide (n<=high)
def q_(n low high:Int):bq aH 89 [aa n,aa low,aa high] (λv=>v=.bool (e4 n low high)):=by
 refine bB Hh (ah ?_);cases h:decide (low<=n)
 . exact i_ @e4.eq_1 h
 . exact i_ @e4.eq_1 h
def Ja(c:UInt8):Bool:=
 (decide (97<=c.toNat)&&decide (c.toNat<=122))||(decide (65<=c.toNat)&&decide (c.toNat<=90))||(decide (48<=c.toNat)&&decide (c.toNat<=57))
def Jv(c:UInt8):Bool:=decide (c.toNat=45)||decide (c.toNat=95)||decide (c.toNat=46)
def sC(c:UInt8):Bool:=Ja c||Jv c
def jr(s:List UInt8):Bool:=s.all sC&&decide (0<s.length)&&decide (s.length<=32)
def C4{s:List UInt8}{i:Nat}{c:UInt8}(h:s[i]? =I c)(p:UInt8->Bool):(s.take (i+1)).all p=((s.take i).all p&&p c):=by rw[gM,h];simp[List.all_append]
def Qa{s:List UInt8}{i:Nat}{c:UInt8}(h:s[i]? =I c){p:UInt8->Bool}(a:p c=ad):s.all p=ad:=by rw[List.all_eq_false];exact⟨c,bI h,by simp[a]⟩
def A0(c:UInt8):sC c=U↔(97<=c.toNat/\c.toNat<=122)∨(65<=c.toNat/\c.toNat<=90)∨(48<=c.toNat/\c.toNat<=57)∨c.toNat=45∨c.toNat=95∨c.toNat=46:=by simp only[sC,Ja,Jv,ln,bL,cZ];omega
theorem JV{s:List UInt8}{i:Nat}{c:UInt8}(h:s[i]? =I c)(a:sC c=ad):jr s=ad:=by rw[jr,Qa h a];rfl
def JU(c:UInt8)(h:¬((97<=c.toNat/\c.toNat<=122)∨(65<=c.toNat/\c.toNat<=90)∨(48<=c.toNat/\c.toNat<=57)∨c.toNat=45∨c.toNat=95∨c.toNat=46)):sC c=ad:=by rw[<-Bool.not_eq_true,A0];exact h
def xk(s:List UInt8)(ae:s.length<=maxLen):bq aH 90 [.str s] (λv=>v=.bool (jr s)):=by
 have j:maxLen=9223372036854775807:=by rfl
 refine bB Gl ?_;refine ah ?_;refine c6 s (λi e M=>(s.take i).all sC=U/\e=[.str s,aa i]/\M=[]) ⟨by simp,rfl,rfl⟩ ?_ ?_
 . rintro i c e M d g f ⟨a,rfl,rfl⟩;simp-implicitDefEqProofs (maxSteps:=3000000) (disch:=omega) only[go_sem,xL,f,d]
   repeat' (refine uB (λh=>?_) (λh=>?_))
   all_goals first
    |(refine bE g ⟨?_,rfl,rfl⟩
      rw[C4 d,a,(A0 c).2 J];rfl)
    |(rw[JV d (JU c J)])
 . rintro e M ⟨a,rfl,rfl⟩;rw[f_] at a;refine aL @bV ?_;apply aW<;>intro h
   . have b:0<s.length:=J;refine b6 @jr.eq_1 a b ?_;exact decide_eq_decide.2 J
   . have b:¬0<s.length:=J;refine ah ?_;simp[jr,b]
def v9(n:Nat)(h:n<18446744073709551616):IntKind.u64.wrap (n:Int)=n:=MC _ J J
def vK(a b:Nat)(c:a<18446744073709551616)(d:b<18446744073709551616):a|||b<18446744073709551616:=Nat.or_lt_two_pow (n:=64) c d
def yV(a b:Nat)(c:a<18446744073709551616):a&&&b<18446744073709551616:=Nat.lt_of_le_of_lt Nat.and_le_left c
def vJ(a b:Nat)(c:a<18446744073709551616)(d:b<18446744073709551616):lN .u64 a b=((a|||b:Nat):Int):=by
 have e:(fF 64 (a:Int)|||fF 64 (b:Int)).toNat=a|||b:=by rw[BitVec.ofInt_natCast,BitVec.ofInt_natCast,BitVec.toNat_or,BitVec.toNat_ofNat,BitVec.toNat_ofNat,Nat.mod_eq_of_lt c,Nat.mod_eq_of_lt d]
 show IntKind.u64.wrap ((fF 64 (a:Int)|||fF 64 (b:Int)).toNat:Int)=_;rw[e];exact v9 _ (vK a b c d)
def C8(a b:Nat)(c:a<18446744073709551616)(d:b<18446744073709551616):wz .u64 a b=((a&&&b:Nat):Int):=by
 have e:(fF 64 (a:Int)&&&fF 64 (b:Int)).toNat=a&&&b:=by rw[BitVec.ofInt_natCast,BitVec.ofInt_natCast,BitVec.toNat_and,BitVec.toNat_ofNat,BitVec.toNat_ofNat,Nat.mod_eq_of_lt c,Nat.mod_eq_of_lt d]
 show IntKind.u64.wrap ((fF 64 (a:Int)&&&fF 64 (b:Int)).toNat:Int)=_;rw[e];exact v9 _ (yV a b c)
def oV(a b:Nat):Nat:=a^^^(a&&&b)
theorem JC(a b j:Nat):(oV a b).testBit j=(a.testBit j&&!b.testBit j):=by rw[oV,Nat.testBit_xor,Nat.testBit_and];cases a.testBit j<;>cases b.testBit j<;>rfl
def Dl{a j:Nat}(b:a<18446744073709551616)(c:64<=j):a.testBit j=ad:=
 Nat.testBit_lt_two_pow (Nat.lt_of_lt_of_le b (Nat.pow_le_pow_right (n:=2) J c))
def Zb{a:Nat}(h:∀j,64<=j->a.testBit j=ad):a<18446744073709551616:=
 Nat.lt_pow_two_of_testBit (n:=64) a λj b=>h j b
theorem Zv(a b:Nat)(c:a<18446744073709551616):oV a b<18446744073709551616:=
 Zb λj d=>by rw[JC,Dl c d];rfl
def Qf(a b:Nat)(d:a<18446744073709551616)(f:b<18446744073709551616):yU .u64 a b=((oV a b:Nat):Int):=by
 have e:(fF 64 (a:Int)&&&~~~fF 64 (b:Int)).toNat=oV a b:=by
  apply Nat.eq_of_testBit_eq;intro j;rw[JC,BitVec.ofInt_natCast,BitVec.ofInt_natCast,BitVec.testBit_toNat,BitVec.getLsbD_and,BitVec.getLsbD_not,BitVec.getLsbD_ofNat,BitVec.getLsbD_ofNat];by_cases c:j<64
  . simp[c]
  . simp[c,Dl d (Nat.le_of_not_lt c)]
 show IntKind.u64.wrap ((fF 64 (a:Int)&&&~~~fF 64 (b:Int)).toNat:Int)=_;rw[e];exact v9 _ (Zv a b d)
def pop:Nat->Nat->Nat
 |0,_=>0
 |k+1,a=>a%2+pop k (a/2)
theorem Ki(k:Nat):∀a,a≠0->a<2^k->pop k (a&&&(a -1))+1=pop k a:=by
 induction k with
 |zero=>intro a c h;simp at h;omega
 |succ k g=>
  intro a c h;have d:(a&&&(a -1))/2=(a/2)&&&((a -1)/2):=Nat.and_div_two;have f:(a&&&(a -1))%2=0:=by
   rcases Nat.mod_two_eq_zero_or_one a with b|b
   . have:¬(a&&&(a -1))%2=1:=by rw[Nat.and_mod_two_eq_one];omega
     omega
   . have:¬(a&&&(a -1))%2=1:=by rw[Nat.and_mod_two_eq_one];omega
     omega
  simp only[pop,d,f];rcases Nat.mod_two_eq_zero_or_one a with b|b
  . have e:(a -1)/2=a/2 -1:=J;have:=g (a/2) J (by rw[Nat.pow_succ] at h;omega);rw[e,b];omega
  . have e:(a -1)/2=a/2:=J;rw[e,Nat.and_self,b];omega
theorem aaz(k:Nat):∀a,pop k a<=k:=by
 induction k with
 |zero=>intro a;simp[pop]
 |succ k b=>intro a;have:=b (a/2);simp only[pop];omega
theorem Kl(k:Nat):pop k 0=0:=by
 induction k with
 |zero=>rfl
 |succ k a=>simp[pop,a]
attribute [irreducible] pop
def ix(z:Int):Nat:=(z%18446744073709551616).toNat
def qy(z:Int):ix z<18446744073709551616:=by unfold ix;omega
def uX(k:IntKind)(z:Int):qA .u64 (.int k z)=I (.int .u64 (ix z:Nat)):=by
 have e:(2:Int)^IntKind.u64.bits=18446744073709551616:=by decide
 rw[Ef]
 congr 2
 unfold IntKind.wrap ix;simp only[e,show IntKind.u64.signed=ad from rfl,Bool.false_and];simp only[gX,if_false];omega
def CF(a b:Nat)(c:a<18446744073709551616)(d:b<18446744073709551616):bq aH 93 [.int .u64 a,.int .u64 b] (λv=>v=.int .u64 (a|||b:Nat)):=by exact bB Fc (jy (vJ a b c d))
def Ps(a b:Nat)(c:a<18446744073709551616)(d:b<18446744073709551616):bq aH 95 [.int .u64 a,.int .u64 b] (λv=>v=.bool (decide (oV a b=0))):=by refine bB Fh (aL (Qf a b c d) ?_);exact decide_eq_decide.2 J
def Pr(a:Nat)(d:a<18446744073709551616):bq aH 94 [.int .u64 a] (λv=>v=aa (pop 64 a:Nat)):=by
 refine bB Fa (ah ?_);have f:=Kl 64;have g:∀b:Nat,b≠0->b<18446744073709551616->IntKind.u64.wrap ((b:Int) -1)=((b -1:Nat):Int):=λb c m=>by rw[MC _ J J];omega
 have o:=aaz 64 a;refine⟨λn i M=>∃b k:Nat,n=pop 64 b/\b<18446744073709551616/\k+pop 64 b=pop 64 a/\i=[.int .u64 b,aa k]/\M=[],?_,?_⟩
 . refine ah ?_;apply aW<;>intro h
   . have:a=0:=J;subst this;refine aL f ?_;rfl
   . refine ah ?_;have c:a≠0:=J;have j:=Ki 64 a c d;rw[g a c d,C8 a (a -1) d J];exact⟨_,a&&&(a -1),1,rfl,yV _ _ d,J,rfl⟩
 . rintro n i M ⟨b,k,rfl,e,l,rfl,rfl⟩;refine ah ?_;apply aW<;>intro h
   . have:b=0:=J;subst this;rw[f] at l;refine ah ?_;omega
   . refine ah ?_;have c:b≠0:=J;have j:=Ki 64 b c e;rw[g b c e,C8 b (b -1) e J];exact⟨_,J,b&&&(b -1),k+1,rfl,yV _ _ e,J,rfl⟩
def Ma{i:Nat}(b:i<64):2^i<18446744073709551616:=Nat.pow_lt_pow_right (a:=2) J b
def To(s i:Nat):List Nat:=(b8 i).filter s.testBit
def BZ(n:Int):IntKind.u64.wrap n=n%18446744073709551616:=by
 have e:(2:Int)^IntKind.u64.bits=18446744073709551616:=by decide
 unfold IntKind.wrap;simp only[e,show IntKind.u64.signed=ad from rfl,Bool.false_and];simp
def kY(n:Int):IntKind.i64.wrap n=if n%18446744073709551616>=9223372036854775808 then n%18446744073709551616 -18446744073709551616 else n%18446744073709551616:=by
 have e:(2:Int)^IntKind.i64.bits=18446744073709551616:=by decide
 have a:(2:Int)^(IntKind.i64.bits -1)=9223372036854775808:=by decide
 unfold IntKind.wrap;simp only[e,a,show IntKind.i64.signed=U from rfl,Bool.true_and,cZ]
def aaC(a b d:Int)(c:dd a)(e:dd b)(f:dd d):bq aH 91 [aa a,aa b,aa d] (λv=>v=.bool (decide (d<b -a))):=by
 obtain⟨g,i⟩:=c;obtain⟨j,k⟩:=e;obtain⟨l,m⟩:=f;refine bB Hf ?_;simp-implicitDefEqProofs (maxSteps:=3000000) (disch:=omega) only[go_sem,xL]
 repeat' (refine uB (λh=>?_) (λh=>?_))
 all_goals
  rw[Bool.eq_iff_iff];simp only[cZ,BZ,true_iff,false_iff,gX];omega
structure cv where
 id:List UInt8
 gf:Int
 aY:Int
 er:Int
 rh:Int
 dn:Int
def cv.row(p:cv):List V:=[.str p.id,aa p.gf,aa p.aY,aa p.er,aa p.rh,aa p.dn]
def cv.wf(p:cv):Prop:=p.id.length<=maxLen/\dd p.gf/\dd p.aY/\dd p.er/\dd p.rh/\dd p.dn
def cv.right(p:cv):Bool:=e4 p.gf 0 1000000&&(e4 p.aY 1 8&&(e4 p.er 1 16&&(e4 p.rh 0 86400&&e4 p.dn 1 255)))
structure aI where
 aR:Int
 aQ:Int
 er:Int
 dn:Int
def aI.row(r:aI):List V:=[aa r.aR,aa r.aQ,aa r.er,aa r.dn]
def aI.wf(r:aI):Prop:=dd r.aR/\dd r.aQ/\dd r.er/\dd r.dn
def rC(l:List aI):Nat:=l.foldl (λa r=>a|||ix r.er) 0
def qY(l:List aI):Nat:=l.foldl (λa r=>a|||ix r.dn) 0
theorem Ac(f:aI->Int):∀(l:List aI)(a:Nat),a<18446744073709551616->l.foldl (λa r=>a|||ix (f r)) a<18446744073709551616
 |[],_,h=>h
 |r::l,a,h=>Ac f l _ (vK _ _ h (qy _))
def MH(l:List aI):rC l<18446744073709551616:=Ac (·.er) l 0 J
def JH(l:List aI):qY l<18446744073709551616:=Ac (·.dn) l 0 J
theorem aeF(l:List aI)(i:Nat)(r:aI)(h:l[i]? =I r):rC (l.take (i+1))=rC (l.take i)|||ix r.er:=by rw[rC,gM,h,List.foldl_append];rfl
theorem ZE(l:List aI)(i:Nat)(r:aI)(h:l[i]? =I r):qY (l.take (i+1))=qY (l.take i)|||ix r.dn:=by rw[qY,gM,h,List.foldl_append];rfl
def sP(l:List aI):Int:=
 match l[0]?,l[l.length -1]? with
 |some a,I b=>b.aR -a.aR
 |_,_=>0
def iS(p:cv)(l:List aI):Bool:=
 decide (0<l.length)&&(decide ((l.length:Int)<=p.aY)&&(decide (sP l<=p.rh)&&(decide ((pop 64 (rC l):Int)<=p.er)&&decide (oV (qY l) (ix p.dn)=0))))
def M0(p:cv)(r a:aI)(z m:Nat)(d:z<18446744073709551616)(c:m<18446744073709551616):
 bx aH 92 [.agg r.row,.ptr 1 0,.ptr 2 0] [.box p.row,.box [.int .u64 z],.box [.int .u64 m],.box a.row] (λv b=>v=.tuple []/\b=[.box p.row,.box [.int .u64 (z|||ix r.er:Nat)],.box [.int .u64 (m|||ix r.dn:Nat)],.box a.row]):=by
 refine bB Hc (bN @aI.row.eq_1 @uX ?_);refine bG (CF _ _ d (qy _)) (aL @uX ?_);exact bG (CF _ _ c (qy _)) (jy @cv.row.eq_1)
def EY{α:Type}{l:List α}(h:0<l.length):∃a b,l[0]? =I a/\l[l.length -1]? =I b:=
 ⟨l[0],l[l.length -1],by simp[h],by simp⟩
def Kp(p:cv)(l:List aI)(c:cg)(t:p.wf)(m:∀r∈l,r.wf)(z:l.length<=maxLen):bq aH 48 [.agg p.row,.slice (l.map aI.row) c] (λv=>v=.bool (iS p l)):=by
 have A:maxLen=9223372036854775807:=by rfl
 obtain⟨_,_,C,D,u,B⟩:=t;refine bB Hd (aL @cv.row.eq_1 ?_);apply aW<;>intro h
 . have:iS p l=ad:=by
    have:¬0<l.length:=J;simp[iS,this]
   exact jy this
 have j:0<l.length:=J;obtain⟨a,b,d,e⟩:=EY j;refine ah ?_;apply aW<;>intro x
 . have:iS p l=ad:=by
    have:¬(l.length:Int)<=p.aY:=J;simp[iS,this]
   exact jy this
 refine b6 d e @aI.row.eq_1 ?_;refine bG (aaC _ _ _ ?_ ?_ u) ?_
 . exact(m a (bI d)).1
 . exact(m b (bI e)).1
 have E:sP l=b.aR -a.aR:=by simp only[sP,d,e]
 refine ah ?_;apply aW<;>intro y
 . have:iS p l=ad:=by
    have:¬sP l<=p.rh:=J;simp[iS,this]
   exact jy this
 refine ah ?_;refine c6 l (λi g M=>g=[.ptr 0 0,.ptr 1 0,.ptr 2 0,.fn 92 [.ptr 1 0,.ptr 2 0],.slice (l.map aI.row) c,aa l.length,aa i]/\
  M=[.box p.row,.box [.int .u64 (rC (l.take i))],.box [.int .u64 (qY (l.take i))]]) ⟨rfl,rfl⟩ ?_ ?_
 . rintro i r g M f s q ⟨rfl,rfl⟩;refine b6 q f @aI.row.eq_1 ?_;refine ch (M0 p r r _ _ (MH _) (JH _)) ?_;rintro v w ⟨rfl,rfl⟩;refine ah ?_;refine cN s rfl ⟨rfl,?_⟩;rw[aeF l i r f,ZE l i r f];rfl
 . rintro g M ⟨rfl,rfl⟩;refine bN @bV @f_.{0} ?_;refine nO (Pr _ (MH l)) (aL @cv.row.eq_1 ?_);apply aW<;>intro k
   . refine aL @uX ?_;refine bG (Ps _ _ (JH l) (qy _)) ?_;simp-implicitDefEqProofs (disch:=omega) only[go_sem,b4];have n:(l.length:Int)<=p.aY:=J;have o:sP l<=p.rh:=J;simp[iS,j,n,o,k]
   . refine ah ?_;simp[iS,k]
structure aN where
 bU:List cv
 tag:cg
 hG:Int
 e4:Int
 kf:Int
def aN.row(f:aN):List V:=[.slice (f.bU.map cv.row) f.tag,aa f.hG,aa f.e4,aa f.kf]
def aN.wf(f:aN):Prop:=(∀p∈f.bU,p.wf)/\f.bU.length<=maxLen/\dd f.hG/\dd f.e4/\dd f.kf
def lh(a:List (List UInt8)):List (V×V):=a.map λs=>(.str s,.bool U)
theorem Ar(s:List UInt8):∀a,k3 .str (.str s) (lh a)=U
 |[]=>rfl
 |i::a=>by show((gn .str (.str s) (.str i)).isSome&&k3 .str (.str s) (lh a))=U;rw[Ar s a];rfl
theorem Jk(s:List UInt8):∀a,nZ .str (.str s) (lh a)=if s∈a then I (.bool U) else ag
 |[]=>rfl
 |i::a=>by
  show(bif (gn .str (.str s) (.str i)).getD ad then I (V.bool U) else nZ .str (.str s) (lh a))=_;rw[Jk s a];by_cases h:s=i
  . subst h;simp[gn]
  . simp[gn,h]
theorem Jq(s:List UInt8):∀a,s∉a->lK .str (.str s) (.bool U) (lh a)=lh (a++[s])
 |[],_=>rfl
 |i::a,h=>by have b:s≠i:=λe=>h (by simp[e]);have c:=Jq s a (λe=>h (by simp[e]));show(bif (gn .str (.str s) (.str i)).getD ad then _ else(V.str i,V.bool U)::lK .str (.str s) (.bool U) (lh a))=_;rw[c];simp[gn,b,lh]
theorem Me(n:Nat):∀a,kE n (lh a)=U
 |[]=>rfl
 |i::a=>by show(V.under n (.bool U)&&kE n (lh a))=U;rw[Me n a];rfl
def aaB(a:List V)(b:List V)(e:List (List UInt8))(L:Mem)(c:cd 2 a=U)(d:cd 2 b=U):gu 2 a ([.box b,.map (lh e)]++L)=U:=by simp[gu,c,b4,au.under,d,Me]
def YX(s:List UInt8)(a:List (List UInt8)):k5 .str (.bool ad) ad (.str s) (lh a)=I (.bool (decide (s∈a))):=by simp only[k5,lJ,kv,iW,qQ,bi,hg,Ar,Jk,wW];by_cases ae:s∈a<;>simp[ae]
def adJ{s:List UInt8}{a:List (List UInt8)}(ae:s∉a):li .str (.str s) (.bool U) (lh a)=I (lh (a++[s])):=by simp only[li,iW,qQ,Ar,V.gU,cR,bi,Jq s a ae]
def mz(l:List cv)(i:Nat):Int:=
 match l[i]? with
 |none=>0
 |some p=>if jr p.id=ad then 12 else if p.id∈(l.take i).map cv.id then 6 else if p.right=ad then 2 else 0
def g4(f:aN):Int×Int:=
 if e4 f.hG 0 1000000=U/\e4 f.e4 0 86400=U/\e4 f.kf 0 1000000=U then
  if 16<f.bU.length then(0,5) else oM (mz f.bU) f.bU.length
 else(-1,2)
def ig(p:Int×Int):V:=.tuple [aa p.1,aa p.2]
def A8(f:aN)(y:f.wf):bq aH 46 [.agg f.row] (λv=>v=ig (g4 f)):=by
 refine bB G_ (aL @aN.row.eq_1 ?_);refine bG (q_ _ _ _) (ah ?_);apply cU<;>intro a
 . refine b6 @ig.eq_1 @g4.eq_1 a ?_;rfl
 refine ah ?_;refine bG (q_ _ _ _) (ah ?_);apply cU<;>intro b
 . refine d0 @ig.eq_1 @g4.eq_1 a b ?_;rfl
 refine ah ?_;refine bG (q_ _ _ _) (ah ?_);apply cU<;>intro n
 . refine es @ig.eq_1 @g4.eq_1 a b n ?_;rfl
 refine ah ?_;apply aW<;>intro B
 . have:16<f.bU.length:=J;refine he @ig.eq_1 @g4.eq_1 a b n this ?_;rfl
 have w:¬16<f.bU.length:=J;have A:g4 f=oM (mz f.bU) f.bU.length:=by simp[g4,a,b,n,w]
 refine aL A ?_;refine c6 f.bU (λi o M=>(∀k,k<i->mz f.bU k=0)/\o=[.map 1,.slice (f.bU.map cv.row) f.tag,aa f.bU.length,aa i]/\
  M=[.box f.row,.map (lh ((f.bU.take i).map cv.id))]) ⟨λk s=>aJ s (c9 k),rfl,rfl⟩ ?_ ?_
 . rintro i p o M l r x ⟨g,rfl,rfl⟩;have fin:∀e,mz f.bU i=e->e≠0->V.tuple [aa i,aa e]=ig (oM (mz f.bU) f.bU.length):=λe a b=>by
    rw[Uf r g (by rw[a];exact b),a];rfl
   have j:mz f.bU i=if jr p.id=ad then 12 else if p.id∈(f.bU.take i).map cv.id then 6 else if p.right=ad then 2 else 0:=by simp only[mz,l]
   refine b6 x l @cv.row.eq_1 ?_;refine bG (xk _ (y.1 p (bI l)).1) (ah ?_);apply cU<;>intro q
   . refine ah ?_;exact fin 12 (by rw[j,aF q]) (by decide)
   have m:¬jr p.id=ad:=by simp[q]
   refine aL @YX ?_;apply aW<;>intro d
   . refine ah ?_;exact fin 6 (by rw[j,ax m,aF d]) (by decide)
   have c:p.right=ad->mz f.bU i=2:=λh=>by rw[j,ax m,ax d,aF h]
   refine ah ?_;refine bG (q_ _ _ _) (ah ?_);apply cU<;>intro aD
   . refine ah ?_;exact fin 2 (c (by simp[cv.right,aD])) (by decide)
   refine ah ?_;refine bG (q_ _ _ _) (ah ?_);apply cU<;>intro ba
   . refine ah ?_;exact fin 2 (c (by simp[cv.right,ba])) (by decide)
   refine ah ?_;refine bG (q_ _ _ _) (ah ?_);apply cU<;>intro bA
   . refine ah ?_;exact fin 2 (c (by simp[cv.right,bA])) (by decide)
   refine ah ?_;refine bG (q_ _ _ _) (ah ?_);apply cU<;>intro t
   . refine ah ?_;exact fin 2 (c (by simp[cv.right,t])) (by decide)
   refine ah ?_;refine bG (q_ _ _ _) (ah ?_);apply cU<;>intro u
   . refine ah ?_;exact fin 2 (c (by simp[cv.right,u])) (by decide)
   refine aL (adJ d) ?_;refine cN r (aaB _ _ _ _ rfl rfl) ⟨λk s=>?_,rfl,?_⟩
   . rcases eT k i with z|C
     . exact g k z
     . have:k=i:=J;subst this;rw[j,ax m,ax d,ax (by simp[cv.right,aD,ba,bA,t,u])]
   . have e:(f.bU.take (i+1)).map cv.id=(f.bU.take i).map cv.id++[p.id]:=by rw[gM,l,iL]<;>rfl
     rw[e];rfl
 . rintro o M ⟨g,rfl,rfl⟩;exact pj @bV (EX g) @ig.eq_1
theorem Ug{e:Nat->Int}{n:Nat}(h:(oM e n).2=0):∀k,k<n->e k=0:=by
 intro k b;unfold oM at h;cases a:(b8 n).find? (λk=>decide (e k≠0)) with
 |none=>rw[List.find?_eq_none] at a;have:=a k (hh.2 b);simpa using this
 |some j=>rw[a] at h;have:=List.find?_some a;simp only[ne_eq,decide_not,hM,decide_eq_false_iff_not] at this;exact aJ h this
def kG{n a b:Int}:e4 n a b=U↔a<=n/\n<=b:=by simp[e4]
structure aN.Ok(f:aN):Prop where
 hG:0<=f.hG/\f.hG<=1000000
 e4:0<=f.e4/\f.e4<=86400
 kf:0<=f.kf/\f.kf<=1000000
 len:f.bU.length<=16
 p7:∀p∈f.bU,(0<=p.gf/\p.gf<=1000000)/\(1<=p.aY/\p.aY<=8)/\(1<=p.er/\p.er<=16)/\(0<=p.rh/\p.rh<=86400)/\(1<=p.dn/\p.dn<=255)
def tz{f:aN}(h:(g4 f).2=0):f.Ok:=by
 unfold g4 at h;split at h
 . rename_i a;split at h
   . simp at h
   . rename_i g;have e:=Ug h;refine⟨kG.1 a.1,kG.1 a.2.1,kG.1 a.2.2,J,λp d=>?_⟩;obtain⟨i,b⟩:=eb d;have:=e i (az.1 b).1;simp only[mz,b] at this;split at this
     . simp at this
     . split at this
       . simp at this
       . split at this
         . simp at this
         . rename_i c;simp only[Bool.not_eq_false,cv.right,bL,kG] at c;exact c
 . simp at h
structure Stop where
 id:List UInt8
 hz:Int
 bH:Bool
 change:Int
def Stop.row(s:Stop):List V:=[.str s.id,aa s.hz,.bool s.bH,aa s.change]
def Stop.wf(s:Stop):Prop:=s.id.length<=maxLen/\dd s.hz/\dd s.change
structure ec where
 id:List UInt8
 fA:Int
 uP:Bool
def ec.row(r:ec):List V:=[.str r.id,aa r.fA,.bool r.uP]
def ec.wf(r:ec):Prop:=r.id.length<=maxLen/\dd r.fA
structure aV where
 oc:Int
 mh:Int
 nb:Int
 id:List UInt8
 gJ:Int
 bH:Bool
 ds:Bool
 aO:List aZ
 tag:cg
def aV.row(r:aV):List V:=[aa r.oc,aa r.mh,aa r.nb,.str r.id,aa r.gJ,.bool r.bH,.bool r.ds,.slice (r.aO.map aZ.row) r.tag]
def aV.wf(r:aV):Prop:=dd r.oc/\dd r.mh/\dd r.nb/\r.id.length<=maxLen/\dd r.gJ/\(∀c∈r.aO,c.wf)/\r.aO.length<=maxLen
structure b1 where
 src:Int
 fg:Int
 dst:Int
 ea:Int
 aT:Bool
def b1.row(l:b1):List V:=[aa l.src,aa l.fg,aa l.dst,aa l.ea,.bool l.aT]
def b1.wf(l:b1):Prop:=dd l.src/\dd l.fg/\dd l.dst/\dd l.ea
structure bb where
 src:Int
 dst:Int
 bs:Int
 bH:Bool
 deriving DecidableEq
def bb.row(p:bb):List V:=[aa p.src,aa p.dst,aa p.bs,.bool p.bH]
def bb.wf(p:bb):Prop:=dd p.src/\dd p.dst/\dd p.bs
structure ak where
 aB:List Stop
 ey:List ec
 ar:List aV
 bj:List b1
 bw:List bb
 bQ:aN
 ij:cg
 rc:cg
 jx:cg
 lc:cg
 la:cg
def ak.row(n:ak):List V:=[.slice (n.aB.map Stop.row) n.ij,.slice (n.ey.map ec.row) n.rc,.slice (n.ar.map aV.row) n.jx,.slice (n.bj.map b1.row) n.lc,.slice (n.bw.map bb.row) n.la,
 .slice (n.bQ.bU.map cv.row) n.bQ.tag,aa n.bQ.hG,aa n.bQ.e4,aa n.bQ.kf]
structure ak.wf(n:ak):Prop where
 aB:(∀s∈n.aB,s.wf)/\n.aB.length<=maxLen
 ey:(∀s∈n.ey,s.wf)/\n.ey.length<=maxLen
 ar:(∀s∈n.ar,s.wf)/\n.ar.length<=maxLen
 bj:(∀s∈n.bj,s.wf)/\n.bj.length<=maxLen
 bw:(∀s∈n.bw,s.wf)/\n.bw.length<=maxLen
 bQ:n.bQ.wf
def wr(l:List Stop):Prop:=l.length<=64/\∀(i:Nat)(s:Stop),l[i]? =I s->jr s.id=U/\(0<=s.hz/\s.hz<=15)/\(0<=s.change/\s.change<=3600)/\∀(k:Nat)(t:Stop),k<i->l[k]? =I t->t.id≠s.id
def uK(l:List ec):Prop:=l.length<=64/\∀(i:Nat)(s:ec),l[i]? =I s->jr s.id=U/\(0<=s.fA/\s.fA<=7)/\∀(k:Nat)(t:ec),k<i->l[k]? =I t->t.id≠s.id
def wa(l:List aZ)(a:Int)(low high:Int)(i:Nat):Prop:=∀c,l[i]? =I c->(0<=c.stop/\c.stop<a)/\(low<=c.aQ/\c.aQ<=c.aR/\c.aR<=high)/\∀p,0<i->l[i -1]? =I p->p.stop≠c.stop/\p.aR<=c.aQ
def rD(l:List aZ)(a low high:Int):Prop:=2<=l.length/\l.length<=32/\∀i,wa l a low high i
def aV.key(r:aV):List UInt8×Int×Int:=(r.id,r.mh,r.nb)
def yP(n:ak)(i:Nat):Prop:=∀r,n.ar[i]? =I r->jr r.id=U/\-1<=r.oc/\0<=r.nb/\(0<=r.mh/\r.mh<=36524)/\(0<=r.gJ/\r.gJ<n.ey.length)/\rD r.aO n.aB.length 0 3155932800/\
 ∀(k:Nat)(o:aV),k<i->n.ar[k]? =I o->o.key≠r.key
def tp(n:ak):Prop:=n.ar.length<=1024/\∀i,yP n i
def jP(n low high:Int):bq aH 156 [aa n,aa low,aa high] (λv=>v=.bool (e4 n low high)):=by
 refine bB WX (ah ?_);cases h:decide (low<=n)
 . exact i_ @e4.eq_1 h
 . exact i_ @e4.eq_1 h
def tR(n low high:Int):bq aH 55 [aa n,aa low,aa high] (λv=>v=.bool (e4 n low high)):=by
 refine bB Xe (ah ?_);cases h:decide (low<=n)
 . exact i_ @e4.eq_1 h
 . exact i_ @e4.eq_1 h
def ws(s:List UInt8)(ae:s.length<=maxLen):bq aH 155 [.str s] (λv=>v=.bool (jr s)):=by
 have m:maxLen=9223372036854775807:=by rfl
 refine bB WU (ah ?_);refine aW (λh=>?_) (λk=>?_)
 . have:jr s=ad:=by
    have:¬0<s.length:=J;simp[jr,this]
   exact jy this
 refine ah ?_;refine aW (λh=>?_) (λl=>?_)
 . have:jr s=ad:=by
    have:¬s.length<=32:=J;simp[jr,this]
   exact jy this
 refine ah ?_;refine c6 s (λi d M=>(s.take i).all sC=U/\d=[.str s,aa i]/\M=[]) ⟨by simp,rfl,rfl⟩ ?_ ?_
 . rintro i c d M b j g ⟨a,rfl,rfl⟩;refine bN g b ?_
   repeat' (first|simp-implicitDefEqProofs (disch:=omega) only[go_sem]|apply aW<;>intro h)
   all_goals first
    |(refine bE j ⟨?_,rfl,rfl⟩
      rw[C4 b,a,(A0 c).2 J];rfl)
    |(rw[JV b (JU c J)])
 . rintro d M ⟨a,rfl,rfl⟩;rw[f_] at a;refine aL @bV ?_;have e:0<s.length:=J;have f:s.length<=32:=J;simp[jr,a,e,f]
def e0(G:Prop)(v:V):Prop:=∃i e:Int,v=.tuple [aa i,aa e]/\(e=0->G)
def e0.cX{G:Prop}(i e:Int)(a:e≠0):e0 G (.tuple [aa i,aa e]):=⟨i,e,rfl,λh=>aJ h a⟩
def e0.ok{G:Prop}(i:Int)(h:G):e0 G (.tuple [aa i,v0]):=⟨i,0,rfl,λ_=>h⟩
def abt(l:List Stop)(c:cg)(v:∀s∈l,s.wf)(z:l.length<=maxLen):bq aH 101 [.slice (l.map Stop.row) c] (e0 (wr l)):=by
 have A:maxLen=9223372036854775807:=by rfl
 refine bB W9 (ah ?_);refine aW (λh=>?_) (λy=>?_)
 . refine ah ?_;exact e0.cX _ _ J
 refine ah ?_;refine c6 l (λi d M=>d=[.slice (l.map Stop.row) c,aa i]/\M=[]/\∀(j:Nat)(s:Stop),j<i->l[j]? =I s->jr s.id=U/\(0<=s.hz/\s.hz<=15)/\(0<=s.change/\s.change<=3600)/\∀(k:Nat)(t:Stop),k<j->l[k]? =I t->t.id≠s.id)
  ⟨rfl,rfl,λj s a=>aJ a (c9 _)⟩ ?_ ?_;rotate_left
 . rintro d M ⟨rfl,rfl,H⟩;refine aL @bV ?_;exact e0.ok _ ⟨J,λi s ae=>H i s (az.1 ae).1 ae⟩
 rintro i s d M ae p n ⟨rfl,rfl,H⟩;have x:=v s (bI ae);refine b6 n ae @Stop.row.eq_1 ?_;refine bG (ws s.id x.1) (ah ?_);apply cU<;>intro w
 . refine ah ?_;exact e0.cX _ _ J
 refine ah ?_;refine d4 i (λk d M=>d=[.slice (l.map Stop.row) c,aa i,aa k]/\M=[]/\∀(j:Nat)(t:Stop),j<k->l[j]? =I t->t.id≠s.id) ⟨rfl,rfl,λj s a=>aJ a (c9 _)⟩ ?_ ?_
 . rintro k d M q r ⟨rfl,rfl,e⟩;obtain⟨t,f⟩:∃t,l[k]? =I t:=⟨l[k],by simp⟩;refine d0 r ae f @Stop.row.eq_1 ?_;apply aW<;>intro o
   . refine ah ?_;exact e0.cX _ _ J
   . refine ah ?_;refine bE q ⟨rfl,rfl,λj u a b=>?_⟩;rcases hQ.1 a with h|h
     . exact e j u h b
     . subst h;rw[f] at b;cases b;exact o
 rintro d M ⟨rfl,rfl,e⟩;refine b6 @bV ae @Stop.row.eq_1 ?_;refine bG (jP _ _ _) (ah ?_);apply cU<;>intro g
 . refine ah ?_;exact e0.cX _ _ J
 refine bN ae @Stop.row.eq_1 ?_;refine bG (jP _ _ _) (ah ?_);apply cU<;>intro m
 . refine ah ?_;exact e0.cX _ _ J
 refine ah ?_;refine bE p ⟨rfl,rfl,λj u a b=>?_⟩;rcases hQ.1 a with h|h
 . exact H j u h b
 . subst h;rw[ae] at b;cases b;exact⟨w,kG.1 g,kG.1 m,e⟩
def abr(l:List ec)(c:cg)(r:∀s∈l,s.wf)(y:l.length<=maxLen):bq aH 102 [.slice (l.map ec.row) c] (e0 (uK l)):=by
 have z:maxLen=9223372036854775807:=by rfl
 refine bB W5 (ah ?_);refine aW (λh=>?_) (λx=>?_)
 . refine ah ?_;exact e0.cX _ _ J
 refine ah ?_;refine c6 l (λi d M=>d=[.slice (l.map ec.row) c,aa i]/\M=[]/\∀(j:Nat)(s:ec),j<i->l[j]? =I s->jr s.id=U/\(0<=s.fA/\s.fA<=7)/\∀(k:Nat)(t:ec),k<j->l[k]? =I t->t.id≠s.id)
  ⟨rfl,rfl,λj s a=>aJ a (c9 _)⟩ ?_ ?_;rotate_left
 . rintro d M ⟨rfl,rfl,H⟩;refine aL @bV ?_;exact e0.ok _ ⟨J,λi s ae=>H i s (az.1 ae).1 ae⟩
 rintro i s d M ae o m ⟨rfl,rfl,H⟩;have w:=r s (bI ae);refine b6 m ae @ec.row.eq_1 ?_;refine bG (ws s.id w.1) (ah ?_);apply cU<;>intro v
 . refine ah ?_;exact e0.cX _ _ J
 refine ah ?_;refine d4 i (λk d M=>d=[.slice (l.map ec.row) c,aa i,aa k]/\M=[]/\∀(j:Nat)(t:ec),j<k->l[j]? =I t->t.id≠s.id) ⟨rfl,rfl,λj s a=>aJ a (c9 _)⟩ ?_ ?_
 . rintro k d M p q ⟨rfl,rfl,e⟩;obtain⟨t,f⟩:∃t,l[k]? =I t:=⟨l[k],by simp⟩;refine d0 q ae f @ec.row.eq_1 ?_;apply aW<;>intro n
   . refine ah ?_;exact e0.cX _ _ J
   . refine ah ?_;refine bE p ⟨rfl,rfl,λj u a b=>?_⟩;rcases hQ.1 a with h|h
     . exact e j u h b
     . subst h;rw[f] at b;cases b;exact n
 rintro d M ⟨rfl,rfl,e⟩;refine b6 @bV ae @ec.row.eq_1 ?_;refine bG (jP _ _ _) (ah ?_);apply cU<;>intro g
 . refine ah ?_;exact e0.cX _ _ J
 refine ah ?_;refine bE o ⟨rfl,rfl,λj u a b=>?_⟩;rcases hQ.1 a with h|h
 . exact H j u h b
 . subst h;rw[ae] at b;cases b;exact⟨v,kG.1 g,e⟩
def eA(G:Prop)(v:V):Prop:=∃e:Int,v=aa e/\(e=0->G)
def eA.cX{G:Prop}(e:Int)(a:e≠0):eA G (aa e):=⟨e,rfl,λh=>aJ h a⟩
def eA.ok{G:Prop}(h:G):eA G v0:=⟨0,rfl,λ_=>h⟩
def abh(l:List aZ)(c:cg)(a low high:Int)(E:∀s∈l,s.wf)(F:l.length<=maxLen):bq aH 157 [.slice (l.map aZ.row) c,aa a,aa low,aa high] (eA (rD l a low high)):=by
 have G:maxLen=9223372036854775807:=by rfl
 refine bB WH (ah ?_);refine aW (λh=>?_) (λy=>?_)
 . refine ah ?_;exact eA.cX _ J
 refine ah ?_;refine aW (λh=>?_) (λz=>?_)
 . refine ah ?_;exact eA.cX _ J
 refine ah ?_;refine c6 l (λi e M=>e=[.slice (l.map aZ.row) c,aa a,aa low,aa high,aa i]/\M=[]/\∀j,j<i->wa l a low high j) ⟨rfl,rfl,λj b=>aJ b (c9 _)⟩ ?_ ?_;rotate_left
 . rintro e M ⟨rfl,rfl,H⟩;refine aL @bV ?_;exact eA.ok ⟨J,J,λi s ae=>H i (az.1 ae).1 s ae⟩
 rintro i s e M ae k t ⟨rfl,rfl,H⟩;refine b6 t ae @aZ.row.eq_1 ?_;refine aW (λh=>?_) (λu=>?_)
 . refine ah ?_;exact eA.cX _ J
 refine ah ?_;refine aW (λh=>?_) (λv=>?_)
 . refine ah ?_;exact eA.cX _ J
 have last:(∀p,0<i->l[i -1]? =I p->p.stop≠s.stop/\p.aR<=s.aQ)->(low<=s.aQ/\s.aQ<=s.aR/\s.aR<=high)->∀j,j<i+1->wa l a low high j:=λaD ba j b=>by
  rcases hQ.1 b with h|h
  . exact H j h
  . subst h;intro c g;rw[ae] at g;cases g;exact⟨⟨J,J⟩,ba,aD⟩
 refine ah ?_;apply cF<;>intro A
 . have B:i=0:=J;refine ah ?_;refine aW (λh=>?_) (λf=>?_)
   . refine ah ?_;exact eA.cX _ J
   refine ah ?_;refine aW (λh=>?_) (λn=>?_)
   . refine ah ?_;exact eA.cX _ J
   refine ah ?_;refine aW (λh=>?_) (λo=>?_)
   . refine ah ?_;exact eA.cX _ J
   refine ah ?_;refine aW (λh=>?_) (λr=>?_)
   . omega
   refine ah ?_;exact cN k rfl ⟨rfl,rfl,last (λp h=>J) ⟨J,J,J⟩⟩
 obtain⟨p,d⟩:∃p,l[i -1]? =I p:=⟨l[i -1],by simp⟩;have C:((i:Int) -1).toNat=i -1:=J;have D:0<=(i:Int) -1:=J;have K:IntKind.i64.wrap ((i:Int) -1)=(i:Int) -1:=by rw[kY];omega
 have m:((i:Int) -1)=((i -1:Nat):Int):=J;refine b6 m d @aZ.row.eq_1 ?_;refine aW (λh=>?_) (λf=>?_)
 . refine ah ?_;exact eA.cX _ J
 refine ah ?_;refine aW (λh=>?_) (λn=>?_)
 . refine ah ?_;exact eA.cX _ J
 refine ah ?_;refine aW (λh=>?_) (λo=>?_)
 . refine ah ?_;exact eA.cX _ J
 refine ah ?_;refine aW (λh=>?_) (λr=>?_)
 . refine ah ?_;exact eA.cX _ J
 refine ah ?_;refine aW (λh=>?_) (λw=>?_);rotate_left
 . omega
 refine b6 m d @aZ.row.eq_1 ?_;refine aW (λh=>?_) (λx=>?_)
 . refine ah ?_;exact eA.cX _ J
 refine ah ?_;refine cN k rfl ⟨rfl,rfl,last (λq h al=>?_) ⟨J,J,J⟩⟩;rw[d] at al;cases al;exact⟨f,J⟩
def abs(n:ak)(i:Nat)(r:aV)(l:n.wf)(a:n.ar[i]? =I r):bq aH 103 [.agg n.row,aa i] (eA (yP n i)):=by
 have N:maxLen=9223372036854775807:=by rfl
 have d:=l.ar.1 r (bI a);have L:=(az.1 a).1;have O:=l.ar.2;refine bB W7 (b6 @ak.row.eq_1 a @aV.row.eq_1 ?_);refine bG (ws r.id d.2.2.2.1) (ah ?_);apply cU<;>intro w
 . refine ah ?_;exact eA.cX _ J
 refine ah ?_;refine aW (λh=>?_) (λD=>?_)
 . refine ah ?_;exact eA.cX _ J
 refine ah ?_;refine aW (λh=>?_) (λE=>?_)
 . refine ah ?_;exact eA.cX _ J
 refine ah ?_;refine bG (jP _ _ _) (ah ?_);apply cU<;>intro y
 . refine ah ?_;exact eA.cX _ J
 refine ah ?_;refine aW (λh=>?_) (λF=>?_)
 . refine ah ?_;exact eA.cX _ J
 refine ah ?_;refine aW (λh=>?_) (λG=>?_)
 . refine ah ?_;exact eA.cX _ J
 refine ah ?_;refine d2 (abh r.aO r.tag n.aB.length 0 3155932800 d.2.2.2.2.2.1 d.2.2.2.2.2.2) ?_;rintro v ⟨e,rfl,z⟩;refine ah ?_;refine aW (λh=>?_) (λK=>?_)
 . have A:e=0:=J;subst A;refine ah ?_;refine d4 i (λk g M=>g=[aa i,.ptr 0 0,.ptr 1 0,aa k]/\M=[.box n.row,.box r.row]/\∀(j:Nat)(o:aV),j<k->n.ar[j]? =I o->o.key≠r.key) ⟨rfl,rfl,λj s b=>aJ b (c9 _)⟩ ?_ ?_;rotate_left
   . rintro g M ⟨rfl,rfl,H⟩;refine aL @bV ?_;refine eA.ok λP p=>?_;rw[a] at p;cases p;exact⟨w,J,J,kG.1 y,⟨J,J⟩,z rfl,H⟩
   rintro k g M c B ⟨rfl,rfl,H⟩;obtain⟨o,m⟩:∃o,n.ar[k]? =I o:=⟨n.ar[k],by simp⟩;have last:o.key≠r.key->∀(j:Nat)(x:aV),j<k+1->n.ar[j]? =I x->x.key≠r.key:=λC j x b f=>by
    rcases hQ.1 b with h|h
    . exact H j x h f
    . subst h;rw[m] at f;cases f;exact C
   refine d0 B m @ak.row.eq_1 @aV.row.eq_1 ?_;apply cF<;>intro q
   . refine ah ?_;exact cN c rfl ⟨rfl,rfl,last λe=>q (congrArg (·.1) e)⟩
   refine ah ?_;apply cF<;>intro t
   . refine ah ?_;exact cN c rfl ⟨rfl,rfl,last λe=>t (congrArg (·.2.1) e)⟩
   refine ah ?_;apply cF<;>intro u
   . refine ah ?_;exact cN c rfl ⟨rfl,rfl,last λe=>u (congrArg (·.2.2) e)⟩
   refine ah ?_;exact eA.cX _ J
 refine ah ?_;exact eA.cX _ J
def mX(a:List b1)(x y:Int):Prop:=∃l∈a,l.aT=U/\l.src=x/\l.dst=y
def j_(a:List b1):Int->Int->Prop:=Relation.TransGen (mX a)
def b1.key(l:b1):Int×Int×Int×Int:=(l.src,l.fg,l.dst,l.ea)
structure Cr(n:ak)(i:Nat)(l:b1):Prop where
 src:0<=l.src/\l.src<n.ar.length
 dst:0<=l.dst/\l.dst<n.ar.length
 ne:l.src≠l.dst
 aO:∀a b,n.ar[l.src.toNat]? =I a->n.ar[l.dst.toNat]? =I b->(0<=l.fg/\l.fg<a.aO.length)/\(0<=l.ea/\l.ea<b.aO.length)/\
  (∀c d,a.aO[l.fg.toNat]? =I c->b.aO[l.ea.toNat]? =I d->c.stop=d.stop)/\(l.aT=U->l.fg=a.aO.length -1/\l.ea=0)
 ry:l.aT=U->∀(k:Nat)(o:b1),k<i->n.bj[k]? =I o->o.aT=U->o.src≠l.src/\o.dst≠l.dst
 bH:l.aT=U->¬j_ (n.bj.take i) l.dst l.src
 key:∀(k:Nat)(o:b1),k<i->n.bj[k]? =I o->o.key≠l.key
def qr(n:ak)(i:Nat):Prop:=∀l,n.bj[i]? =I l->Cr n i l
def tk(n:ak):Prop:=n.bj.length<=1024/\∀i,qr n i
def Lq{c:List b1}{l:b1}{x y:Int}(h:mX (c++[l]) x y):mX c x y∨(l.aT=U/\l.src=x/\l.dst=y):=by
 obtain⟨m,a,b⟩:=h;rcases dv.1 a with a|a
 . exact .inl ⟨m,a,b⟩
 . rw[dV] at a;subst a;exact .inr b
theorem Yt{b:List b1}{x y z:Int}(h:mX b x y)(c:j_ b y z):j_ b x z:=by
 induction c with
 |single a=>exact .tail (.single h) a
 |tail _ a d=>exact .tail d a
theorem Ys{c:List b1}{x z:Int}(h:j_ c x z):∃y,mX c x y/\(y=z∨j_ c y z):=by
 induction h with
 |single a=>exact⟨_,a,.inl rfl⟩
 |tail _ a e=>
  obtain⟨y,d,b⟩:=e;refine⟨y,d,.inr ?_⟩;rcases b with rfl|b
  . exact .single a
  . exact .tail b a
def ti(a:List b1)(d:Int->Nat):Prop:=∀x y,mX a x y->d y<d x
open Classical in
theorem w3(n:ak):∀i,i<=n.bj.length->(∀k,k<i->qr n k)->∃d,ti (n.bj.take i) d
 |0,_,_=>⟨λ_=>0,λx y ⟨l,c,_⟩=>by simp at c⟩
 |i+1,p,h=>by
  obtain⟨d,g⟩:=w3 n i J λk q=>h k J;obtain⟨l,c⟩:∃l,n.bj[i]? =I l:=⟨n.bj[i],by simp⟩;have m:n.bj.take (i+1)=n.bj.take i++[l]:=by rw[gM,c];rfl
  rw[m];have j:=h i J l c;by_cases ae:l.aT=U
  . refine⟨λx=>d x+if x=l.src∨j_ (n.bj.take i) x l.src then d l.dst+1 else 0,λx y a=>?_⟩;simp only[];rcases Lq a with a|⟨_,rfl,rfl⟩
    . have f:=g x y a;by_cases b:y=l.src∨j_ (n.bj.take i) y l.src
      . have o:x=l.src∨j_ (n.bj.take i) x l.src:=.inr (by
         rcases b with rfl|b
         . exact .single a
         . exact Yt a b);rw[aF b,aF o];omega
      . rw[ax b];omega
    . have b:¬(l.dst=l.src∨j_ (n.bj.take i) l.dst l.src):=λe=>by
       rcases e with e|e
       . exact j.ne e.symm
       . exact j.bH ae e
      rw[ax b,aF (.inl rfl)];omega
  . exact⟨d,λx y a=>by
     rcases Lq a with a|⟨f,_⟩
     . exact g x y a
     . exact aJ f ae⟩
theorem w1{α:Type}{p q:α->Bool}{a:α}:∀(l:List α),(∀x∈l,p x=U->q x=U)->a∈l->q a=U->p a=ad->l.countP p<l.countP q
 |[],_,h,_,_=>by cases h
 |x::l,b,h,al,d=>by
  have f:l.countP p<=l.countP q:=List.countP_mono_left λy c=>b y (fs _ c);rw[List.countP_cons,List.countP_cons];rcases fI.1 h with rfl|h
  . rw[al,d];simp;omega
  . have g:=w1 l (λy c=>b y (fs _ c)) h al d;have:=b x (by simp);cases e:p x with
    |true=>rw[this e];simp;omega
    |false=>simp;omega
def Tb{a:List b1}{d:Int->Nat}(h:ti a d):∃b,ti a b/\∀x,b x<=a.length:=by
 refine⟨λx=>a.countP λl=>l.aT&&decide (d l.src<=d x),λx y e=>?_,λx=>List.countP_le_length⟩;have g:=h x y e;obtain⟨l,f,ae,rfl,rfl⟩:=e;refine w1 a (λm _ c=>?_) f ?_ ?_
 . simp only[bL,cZ] at c⊢;exact⟨c.1,J⟩
 . simp[ae]
 . simp;intro _;omega
def ac7{n:ak}{i:Nat}(h:∀k,k<i->qr n k){x y z:Int}(p:mX (n.bj.take i) x y)(q:mX (n.bj.take i) x z):y=z:=by
 obtain⟨l,r,ae,rfl,rfl⟩:=p;obtain⟨m,s,o,j,rfl⟩:=q;obtain⟨a,e⟩:=eb r;obtain⟨b,c⟩:=eb s;have f:a<i:=by have:=(az.1 e).1;rw[fh] at this;omega
 have g:b<i:=by have:=(az.1 c).1;rw[fh] at this;omega
 rw[fT f] at e;rw[fT g] at c;rcases Nat.lt_trichotomy a b with d|d|d
 . exact aJ j.symm ((h b g m c).ry o a l d e ae).1
 . subst d;rw[e] at c;cases c;rfl
 . exact aJ j ((h a f l e).ry ae b m d c o).1
def Zq{α:Type}{l:List α}{i k:Nat}{x:α}(a:k<i)(h:l[k]? =I x):x∈l.take i:=by
 have:(l.take i)[k]? =I x:=by rw[fT a];exact h
 exact bI this
def t5{α:Type}{l:List α}{i:Nat}{x:α}(h:x∈l.take i):∃k,k<i/\l[k]? =I x:=by
 obtain⟨k,a⟩:=eb h;have b:k<i:=by have:=(az.1 a).1;rw[fh] at this;omega
 exact⟨k,b,by rw[fT b] at a;exact a⟩
def abo(n:ak)(i:Nat)(x y:Int)(N:n.wf)(X:i<n.bj.length)(B:∀k,k<i->qr n k)(af:0<=y):
 bq aH 158 [.agg n.row,aa i,aa x,aa y] (λv=>∃b,v=.bool b/\(b=ad->¬j_ (n.bj.take i) x y)):=by
 have Z:maxLen=9223372036854775807:=by rfl
 have Y:=N.bj.2;obtain⟨T,E⟩:=w3 n i J B;obtain⟨d,D,G⟩:=Tb E;have F:∀z,d z<=i:=λz=>by have:=G z;rw[fh] at this;omega
 refine bB WZ (aL @ak.row.eq_1 ?_);refine d4 (i+1) (λt f M=>∃z,f=[aa i,aa z,aa y,.ptr 0 0,aa t]/\M=[.box n.row]/\(j_ (n.bj.take i) x y->j_ (n.bj.take i) z y/\d z+t<=i)) ⟨x,rfl,rfl,λh=>⟨h,F x⟩⟩ ?_ ?_;rotate_left
 . rintro f M ⟨z,rfl,rfl,H⟩;have P:decide (((i+1:Nat):Int)<=(i:Int))=ad:=by simp;omega
   refine aL P ?_;exact⟨ad,rfl,λ_ h=>by have:=(H h).2;omega⟩
 rintro t f M R ab ⟨z,rfl,rfl,H⟩;have S:decide ((t:Int)<=(i:Int))=U:=by simp;omega
 refine aL S ?_;refine d4 i (λk f M=>∃w:Int,f=[aa i,aa z,aa y,.ptr 0 0,aa t,aa w,aa k]/\M=[.box n.row]/\((w=-1/\∀(j:Nat)(l:b1),j<k->n.bj[j]? =I l->l.aT=U->l.src≠z)∨mX (n.bj.take i) z w))
  ⟨-1,rfl,rfl,.inl ⟨rfl,λj l g=>aJ g (c9 _)⟩⟩ ?_ ?_
 . rintro k f M p L ⟨w,rfl,rfl,a⟩;obtain⟨l,c⟩:∃l,n.bj[k]? =I l:=⟨n.bj[k],by simp⟩;have last:(l.aT=U->l.src≠z)->(w=-1/\∀(j:Nat)(l:b1),j<k+1->n.bj[j]? =I l->l.aT=U->l.src≠z)∨mX (n.bj.take i) z w:=λO=>by
    rcases a with⟨rfl,a⟩|a
    . refine .inl ⟨rfl,λj m g r=>?_⟩;rcases hQ.1 g with h|h
      . exact a j m h r
      . subst h;rw[c] at r;cases r;exact O
    . exact .inr a
   refine d0 L c @ak.row.eq_1 @b1.row.eq_1 ?_;apply cU<;>intro o
   . refine ah ?_;exact cN p rfl ⟨w,rfl,rfl,last λe=>by rw[o] at e;cases e⟩
   refine bN c @b1.row.eq_1 ?_;apply cF<;>intro A
   . refine ah ?_;exact cN p rfl ⟨w,rfl,rfl,last λ_=>A⟩
   refine bN c @b1.row.eq_1 ?_;exact cN p rfl ⟨l.dst,rfl,rfl,.inr ⟨l,Zq p c,o,A,rfl⟩⟩
 rintro f M ⟨w,rfl,rfl,a⟩;refine aL @bV ?_;apply aW<;>intro o
 . refine ah ?_;exact⟨U,rfl,λh=>by cases h⟩
 refine ah ?_;refine cN R rfl ⟨w,rfl,rfl,λh=>?_⟩;obtain⟨C,V⟩:=H h;obtain⟨u,s,q⟩:=Ys C;rcases a with⟨rfl,a⟩|a
 . obtain⟨l,c,ae,Q,_⟩:=s;obtain⟨j,g,K⟩:=t5 c;exact aJ Q (a j l g K ae)
 . have:=ac7 B s a;subst this;have W:=D z u s;rcases q with rfl|q
   . exact aJ rfl o
   . exact⟨q,J⟩
def abp(n:ak)(i:Nat)(l:b1)(r:n.wf)(z:n.bj[i]? =I l)(aq:∀k,k<i->qr n k):bq aH 104 [.agg n.row,aa i] (eA (qr n i)):=by
 have aM:maxLen=9223372036854775807:=by rfl
 have aI:=r.bj.2;have aN:=r.ar.2;have ap:=(az.1 z).1;have aK:=r.bj.1 l (bI z);refine bB W1 (b6 @ak.row.eq_1 z @b1.row.eq_1 ?_);refine bG (jP _ _ _) (ah ?_);apply cU<;>intro N
 . refine ah ?_;exact eA.cX _ J
 rw[kG] at N;refine ah ?_;refine bG (jP _ _ _) (ah ?_);apply cU<;>intro O
 . refine ah ?_;exact eA.cX _ J
 rw[kG] at O;refine ah ?_;apply aW<;>intro aj
 . refine ah ?_;exact eA.cX _ J
 obtain⟨a,F⟩:∃a,n.ar[l.src.toNat]? =I a:=⟨n.ar[l.src.toNat]'J,by simp⟩;obtain⟨b,u⟩:∃b,n.ar[l.dst.toNat]? =I b:=⟨n.ar[l.dst.toNat]'J,by simp⟩;have aC:=(r.ar.1 a (bI F)).2.2.2.2.2.2;have aD:=(r.ar.1 b (bI u)).2.2.2.2.2.2;have au:0<=l.src:=N.1;have aF:0<=l.dst:=O.1;refine b6 F u @aV.row.eq_1 ?_;refine bG (jP _ _ _) (ah ?_);apply cU<;>intro P
 . refine ah ?_;exact eA.cX _ J
 rw[kG] at P;refine ah ?_;refine bG (jP _ _ _) (ah ?_);apply cU<;>intro Q
 . refine ah ?_;exact eA.cX _ J
 rw[kG] at Q;obtain⟨c,T⟩:∃c,a.aO[l.fg.toNat]? =I c:=⟨a.aO[l.fg.toNat]'J,by simp⟩;obtain⟨e,X⟩:∃e,b.aO[l.ea.toNat]? =I e:=⟨b.aO[l.ea.toNat]'J,by simp⟩;have aE:0<=l.fg:=P.1;have aG:0<=l.ea:=Q.1;refine b6 T X @aZ.row.eq_1 ?_;apply cF<;>intro al
 . refine ah ?_;exact eA.cX _ J
 have E:(l.aT=U->l.fg=a.aO.length -1/\l.ea=0)->∀t x,n.ar[l.src.toNat]? =I t->n.ar[l.dst.toNat]? =I x->(0<=l.fg/\l.fg<t.aO.length)/\(0<=l.ea/\l.ea<x.aO.length)/\
  (∀c d,t.aO[l.fg.toNat]? =I c->x.aO[l.ea.toNat]? =I d->c.stop=d.stop)/\(l.aT=U->l.fg=t.aO.length -1/\l.ea=0):=λs t x R S=>by
  rw[F] at R;cases R;rw[u] at S;cases S;refine⟨⟨J,J⟩,⟨J,J⟩,λay aA V W=>?_,s⟩;rw[T] at V;cases V;rw[X] at W;cases W;exact al
 by_cases s:l.aT=U->l.fg=a.aO.length -1/\l.ea=0;rotate_left
 . have y:l.aT=U:=by
    cases h:l.aT with
    |true=>rfl
    |false=>exact aJ (λe=>by rw[h] at e;cases e) s
   have aB:(l.aT=U)=True:=by simp[y]
   refine ah ?_;refine dt (λ_=>?_) (λh=>?_);rotate_left
   . rw[y] at h;cases h
   refine ah ?_;apply cF<;>intro am
   . refine ah ?_;exact eA.cX _ J
   refine ah ?_;apply aW<;>intro an
   . exact aJ (λ_=>⟨am,an⟩) s
   refine ah ?_;exact eA.cX _ J
 have E:=E s;refine ah ?_;apply cU<;>intro y;refine ah ?_;rotate_left;obtain⟨av,aw⟩:=s y;refine ah ?_;refine aW (λ_=>?_) (λh=>aJ av h);refine ah ?_;refine aW (λ_=>?_) (λh=>aJ aw h);refine ah ?_;all_goals
  refine d4 i (λk q M=>q=[aa i,.ptr 0 0,.ptr 1 0,aa k]/\M=[.box n.row,.box l.row]/\(l.aT=U->∀(j:Nat)(o:b1),j<k->n.bj[j]? =I o->o.aT=U->o.src≠l.src/\o.dst≠l.dst)) ⟨rfl,rfl,λ_ j o g=>aJ g (c9 _)⟩ ?_ ?_
  . rintro k q M f G ⟨rfl,rfl,H⟩;obtain⟨o,w⟩:∃o,n.bj[k]? =I o:=⟨n.bj[k],by simp⟩;have last:(l.aT=U->o.aT=U->o.src≠l.src/\o.dst≠l.dst)->(l.aT=U->∀(j:Nat)(o:b1),j<k+1->n.bj[j]? =I o->o.aT=U->o.src≠l.src/\o.dst≠l.dst):=λL ae j m g p=>by
     rcases hQ.1 g with h|h
     . exact H ae j m h p
     . subst h;rw[w] at p;cases p;exact L ae
    refine d0 G w @ak.row.eq_1 @b1.row.eq_1 ?_;apply cU<;>intro A
    . refine ah ?_;exact cN f rfl ⟨rfl,rfl,last λe=>by rw[A] at e;cases e⟩
    refine ah ?_;apply cU<;>intro B
    . refine ah ?_;exact cN f rfl ⟨rfl,rfl,last λ_ e=>by rw[B] at e;cases e⟩
    refine ah ?_;apply aW<;>intro C
    . refine ah ?_;exact eA.cX _ J
    refine ah ?_;apply aW<;>intro D
    . refine ah ?_;exact eA.cX _ J
    refine ah ?_;exact cN f rfl ⟨rfl,rfl,last λ_ _=>⟨C,D⟩⟩
  rintro q M ⟨rfl,rfl,H⟩;have ai:(l.aT=U->¬j_ (n.bj.take i) l.dst l.src)->(∀(j:Nat)(o:b1),j<i->n.bj[j]? =I o->o.key≠l.key)->qr n i:=λao K aP Z=>by rw[z] at Z;cases Z;exact⟨⟨J,J⟩,⟨J,J⟩,aj,E,H,ao,K⟩
  refine b6 @bV @ak.row.eq_1 @b1.row.eq_1 ?_;apply cU<;>intro ab;refine ah ?_;rotate_left;refine ah ?_;refine d2 (abo n i l.dst l.src r ap aq au) ?_;rintro v ⟨ax,rfl,u⟩;refine ah ?_;apply dt<;>intro af
  . refine ah ?_;exact eA.cX _ J
  have Y:l.aT=U->¬j_ (n.bj.take i) l.dst l.src:=λ_=>u af;refine ah ?_;rotate_left;have Y:l.aT=U->¬j_ (n.bj.take i) l.dst l.src:=λe=>by rw[ab] at e;cases e
  rotate_left;all_goals
   refine d4 i (λk q M=>q=[aa i,.ptr 0 0,.ptr 1 0,aa k]/\M=[.box n.row,.box l.row]/\(∀(j:Nat)(o:b1),j<k->n.bj[j]? =I o->o.key≠l.key)) ⟨rfl,rfl,λj o g=>aJ g (c9 _)⟩ ?_ ?_
   . rintro k q M f G ⟨rfl,rfl,H⟩;obtain⟨o,w⟩:∃o,n.bj[k]? =I o:=⟨n.bj[k],by simp⟩;have last:o.key≠l.key->(∀(j:Nat)(o:b1),j<k+1->n.bj[j]? =I o->o.key≠l.key):=λL j m g p=>by
      rcases hQ.1 g with h|h
      . exact H j m h p
      . subst h;rw[w] at p;cases p;exact L
     refine d0 G w @ak.row.eq_1 @b1.row.eq_1 ?_;apply cF<;>intro A
     . refine ah ?_;exact cN f rfl ⟨rfl,rfl,last λe=>A (congrArg (·.1) e)⟩
     refine ah ?_;apply cF<;>intro B
     . refine ah ?_;exact cN f rfl ⟨rfl,rfl,last λe=>B (congrArg (·.2.1) e)⟩
     refine ah ?_;apply cF<;>intro C
     . refine ah ?_;exact cN f rfl ⟨rfl,rfl,last λe=>C (congrArg (·.2.2.1) e)⟩
     refine ah ?_;apply cF<;>intro D
     . refine ah ?_;exact cN f rfl ⟨rfl,rfl,last λe=>D (congrArg (·.2.2.2) e)⟩
     refine ah ?_;exact eA.cX _ J
   rintro q M ⟨rfl,rfl,K⟩;refine aL @bV ?_;exact eA.ok (ai Y K)
theorem Mf{n:Nat}:∀{vs:List V},(∀v∈vs,v.under n=U)->cd n vs=U
 |[],_=>rfl
 |v::vs,h=>by simp only[cd,h v (by simp),Mf (vs:=vs) λw a=>h w (by simp[a]),cR]
theorem AI{n:Nat}:∀{M:Mem},(∀B∈M,B.under n=U)->b4 n M=U
 |[],_=>rfl
 |B::M,h=>by simp only[b4,h B (by simp),AI (M:=M) λw a=>h w (by simp[a]),cR]
def gV(N:Nat)(f:Nat->Int):List (List V):=(b8 N).map λj=>[aa (f j)]
def nh(N n:Nat):List V:=(b8 n).map λi=>.an (2*i+1) (N -1) 0 N
def pz(N n:Nat)(W:Nat->Nat->Int)(q:Nat):au:=if q=0 then .b7 (nh N n) n else if q%2=1 then .aj 1 (gV N (W (q/2))) (N -1) 0 else .b7 [.an (q -1) (N -1) 0 N] 0
def ee(N n:Nat)(W:Nat->Nat->Int):Mem:=(b8 (2*n+1)).map (pz N n W)
def pc(N:Nat)(f:Nat->Int):(gV N f).length=N:=by simp[gV]
def pb{N j:Nat}(f:Nat->Int)(h:j<N):(gV N f)[j]? =I [aa (f j)]:=by simp[gV,h]
theorem KT(N j:Nat)(f:Nat->Int)(x:Int):(gV N f).set j [aa x]=gV N (λb=>if b=j then x else f b):=by
 refine lp λq=>?_;rw[List.getElem?_set];by_cases al:q<N
 . rw[pb _ al];by_cases h:j=q
   . subst h;rw[aF rfl,aF (by rw[pc];exact al),pb _ al,aF rfl]
   . rw[ax h,pb _ al,ax (cA h)]
 . rw[jd (by rw[pc];omega),jd (l:=gV N _) (by rw[pc];omega)];split
   . rw[ax (by rw[pc];omega)]
   . rfl
def Bp{N:Nat}{f g:Nat->Int}(h:∀j,j<N->f j=g j):gV N f=gV N g:=by refine List.map_congr_left λj a=>?_;rw[h j (hh.1 a)]
def ue(N n:Nat):(nh N n).length=n:=by simp[nh]
def A9{N n i:Nat}(h:i<n):(nh N n)[i]? =I (.an (2*i+1) (N -1) 0 N):=by simp[nh,h]
def gW(N n:Nat)(W:Nat->Nat->Int):(ee N n W).length=2*n+1:=by simp[ee]
def sV{N n q:Nat}(W:Nat->Nat->Int)(h:q<2*n+1):(ee N n W)[q]? =I (pz N n W q):=by simp[ee,h]
def vY(N n:Nat)(W:Nat->Nat->Int):(ee N n W)[0]? =I (.b7 (nh N n) n):=sV W J
def vZ{N n i:Nat}(W:Nat->Nat->Int)(h:i<n):(ee N n W)[2*i+1]? =I (.aj 1 (gV N (W i)) (N -1) 0):=by rw[sV W J,pz,ax J,aF J,show(2*i+1)/2=i by omega]
theorem adi{N n:Nat}{W V:Nat->Nat->Int}(h:∀i j,i<n->j<N->W i j=V i j):ee N n W=ee N n V:=by
 refine List.map_congr_left λq al=>?_;have:=hh.1 al;simp only[pz];split
 . rfl
 . split
   . rw[Bp λj a=>h (q/2) j J a]
   . rfl
def nt(W:Nat->Nat->Int)(i j:Nat)(x:Int):Nat->Nat->Int:=λa b=>if a=i/\b=j then x else W a b
def Ly{N n i j:Nat}(W:Nat->Nat->Int)(x:Int)(h:i<n):(ee N n W).set (2*i+1) (.aj 1 (gV N (λb=>if b=j then x else W i b)) (N -1) 0)=ee N n (nt W i j x):=by
 refine lp λq=>?_;rw[List.getElem?_set];by_cases al:q<2*n+1
 . rw[sV _ al,sV _ al];by_cases a:2*i+1=q
   . rw[aF a,aF (by rw[gW];omega),<-a,pz,ax J,aF J,show(2*i+1)/2=i by omega]
     congr 2
     refine Bp λb _=>?_;simp[nt]
   . rw[ax a];simp only[pz];split
     . rfl
     . split
       . congr 2
         refine Bp λb _=>?_;rw[nt,ax J]
       . rfl
 . rw[jd (by rw[gW];omega),jd (l:=ee N n (nt W i j x)) (by rw[gW];omega),ax J]
def adk(N n:Nat)(W:Nat->Nat->Int):(ee N n W++[au.aj 1 (gV N (W n)) (N -1) 0,.b7 [.an (2*n+1) (N -1) 0 N] 0]).set 0 (.b7 (nh N (n+1)) (n+1))=ee N (n+1) W:=by
 refine lp λq=>?_;rw[List.getElem?_set];by_cases a:0=q
 . subst a;rw[aF rfl,aF (by simp),vY]
 . rw[ax a];by_cases b:q<2*n+1
   . rw[et (by rw[gW];exact b),sV _ b,sV _ J];simp only[pz,ax (cA a)]
   . rw[fH (by rw[gW];omega),gW];by_cases c:q=2*n+1
     . subst c;rw[vZ _ J];simp
     . by_cases d:q=2*n+2
       . subst d;rw[sV _ J,pz,ax J,ax J,show 2*n+2 -(2*n+1)=1 by omega];rfl
       . rw[jd (by simp;omega),jd (by rw[gW];omega)]
def adj(N n:Nat)(W:Nat->Nat->Int):b4 (2*n+1) (ee N n W)=U:=by
 refine AI λB a=>?_;obtain⟨q,al,rfl⟩:=gY.1 a;have al:=hh.1 al;simp only[pz];split
 . refine Mf λv c=>?_;obtain⟨i,b,rfl⟩:=gY.1 c;have:=hh.1 b;simp[V.under];omega
 . split
   . rfl
   . simp[au.under,cd,V.under];omega
def dL:Int:=1099511627776
def ui(i:Nat):Nat->V
 |0=>.slice [] .full
 |k+1=>.an (2*i+1) k 0 (k+1)
def no:Nat->Mem
 |0=>[]
 |k+1=>[.aj 1 (d_ (k+1) [aa dL]) k 0]
theorem ab2(N i k:Nat)(W:Nat->Nat->Int)(d:k<=64):cw ad 1 8 (ui i k) (.slice [[aa 1099511627776]] .full) (ee N i W++no k)=I (ui i (k+1),ee N i W++no (k+1)):=by
 cases k with
 |zero=>simp[ui,no,cw,dg,eU,dP,gW,dL]
 |succ k=>
  have a:(ee N i W++no (k+1))[2*i+1]? =I (.aj 1 (d_ (k+1) [aa dL]) k 0):=by rw[fH (by rw[gW];exact bk _),gW,hA];rfl
  have b:decide ((k+1+1)*16<=2^48)=U:=bR;have c:(ee N i W++no (k+1)).set (2*i+1) (.aj 1 (d_ (k+1) [aa dL]++[[aa 1099511627776]]) (k+1) 0)=ee N i W++no (k+2):=by
   rw[l1,ax (by rw[gW];omega),gW,hA]
   congr 1
   rw[no,no,List.set_cons_zero,List.replicate_succ' (n:=k+1)];rfl
  simp only[ui,cw,dg,dP,cc,eu,dm,beq_self_eq_true,bi,eU,a,List.length_replicate,cR,Nat.reduceMul,b,c]
theorem ab4{N i:Nat}(h:0<N):ui i N=.an (2*i+1) (N -1) 0 N:=by
 cases N with
 |zero=>cases h
 |succ k=>rfl
theorem ab1{N:Nat}(h:0<N):no N=[.aj 1 (gV N λ_=>dL) (N -1) 0]:=by
 cases N with
 |zero=>cases h
 |succ k=>
  have:d_ (k+1) [V.int .i64 dL]=gV (k+1) λ_=>dL:=by
   refine lp λq=>?_;by_cases al:q<k+1
   . rw[pb _ al,List.getElem?_replicate,aF al]
   . rw[jd (by simp;omega),jd (by rw[pc];omega)]
  rw[no,this];rfl
def adl(N n:Nat)(g:n<=64):cw ad 1 24 (.an 0 n 0 n) (.an (2*n+2) 0 0 1) (ee N n (λ_ _=>dL)++[au.aj 1 (gV N λ_=>dL) (N -1) 0]++[au.b7 [.an (2*n+1) (N -1) 0 N] 0])=
 I (.an 0 (n+1) 0 (n+1),ee N (n+1) λ_ _=>dL):=by
 have e:ee N n (λ_ _=>dL)++[au.aj 1 (gV N λ_=>dL) (N -1) 0]++[au.b7 [.an (2*n+1) (N -1) 0 N] 0]=ee N n (λ_ _=>dL)++[.aj 1 (gV N λ_=>dL) (N -1) 0,.b7 [.an (2*n+1) (N -1) 0 N] 0]:=by simp
 rw[e];have b:(ee N n (λ_ _=>dL)++[au.aj 1 (gV N λ_=>dL) (N -1) 0,.b7 [.an (2*n+1) (N -1) 0 N] 0])[2*n+2]? =I (.b7 [.an (2*n+1) (N -1) 0 N] 0):=by rw[fH (by rw[gW];omega),gW,show 2*n+2 -(2*n+1)=1 by omega];rfl
 have a:(ee N n (λ_ _=>dL)++[au.aj 1 (gV N λ_=>dL) (N -1) 0,.b7 [.an (2*n+1) (N -1) 0 N] 0])[0]? =I (.b7 (nh N n) n):=by rw[et (by rw[gW];omega),vY]
 have c:decide ((n+1)*48<=2^48)=U:=bR;have d:nh N n++[.an (2*n+1) (N -1) 0 N]=nh N (n+1):=by simp[nh,List.range_succ]
 have f:=adk N n (λ_ _=>dL);simp only[cw,dg,b,vH,beq_self_eq_true,V.gU,cR,bi,uO,a,ue,Nat.reduceMul,c,d,f]
def a0{M:Mem}{i:Nat}{B:au}(h:M[i]? =I B)(L:Mem):(M++L)[i]? =I B:=by rw[et (az.1 h).1,h]
def i9{α:Type}{M:List α}{n:Nat}(h:M.length=n)(L:List α):(M++L).take n=M:=by subst h;simp
def m6(N:Nat)(W:Nat->Nat->Int):V:=.slice ((b8 N).map λi=>[.slice (gV N (W i)) .bF]) .bF
theorem AE{α:Type}{f:V->Option V}{g h:α->V}:∀(l:List α),(∀x∈l,f (g x)=I (h x))->eO f (l.map g)=I (l.map h)
 |[],_=>rfl
 |x::l,a=>by simp only[gg,eO,a x (by simp),AE l λy b=>a y (by simp[b])]
theorem yT{α:Type}{h:α->V}:∀(l:List α),(∀x∈l,(h x).ia=U)->fL (l.map h)=U
 |[],_=>rfl
 |x::l,a=>by simp only[gg,fL,a x (by simp),yT l λy b=>a y (by simp[b]),cR]
def Ae{M:Mem}{bf n id ver start len:Nat}{cells a:List V}(c:decide (id<bf)=ad)(b:M[id]? =I (.b7 cells ver))(e:start+len<=cells.length)(d:eO (cY M bf n) ((cells.drop start).take len)=I a)(f:fL a=U):
 cY M bf (n+1) (.an id ver start len)=I (.slice (a.map λx=>[x]) .bF):=by
 simp only[cY,c,eE,b,beq_self_eq_true,be e,cR,bi,d,f]
def tQ{M:Mem}{bf n id ver start len sz fz:Nat}{rows:List (List V)}(b:decide (id<bf)=ad)(a:M[id]? =I (.aj sz rows ver fz))(c:start+len<=rows.length):
 cY M bf (n+1) (.an id ver start len)=I (.slice ((rows.drop start).take len) .bF):=by
 simp only[cY,b,eE,a,beq_self_eq_true,be c,cR,bi]
def adn(N:Nat)(W:Nat->Nat->Int):cY (ee N N W) 0 20 (.an 0 N 0 N)=I (m6 N W):=by
 have b:eO (cY (ee N N W) 0 19) (((nh N N).drop 0).take N)=I ((b8 N).map λi=>.slice (gV N (W i)) .bF):=by
  rw[hN,eS (by rw[ue];omega)];refine AE _ λi a=>?_;have a:=hh.1 a;have e:((gV N (W i)).drop 0).take N=gV N (W i):=by rw[hN,eS (by rw[pc];omega)]
  have:=tQ (M:=ee N N W) (bf:=0) (n:=18) (len:=N) (start:=0) (by simp) (vZ W a) (by rw[pc];omega);rw[e] at this;exact this
 have:=Ae (n:=19) (M:=ee N N W) (bf:=0) (by simp) (vY N N W) (by rw[ue];omega) b (yT _ λ_ _=>rfl);rw[List.map_map] at this;exact this
def adp{N i j:Nat}(W:Nat->Nat->Int)(h:i<N)(x:Int)(L:Mem):(ee N N W++L).set (2*i+1) (.aj 1 ((gV N (W i)).set j [aa x]) (N -1) 0)=ee N N (nt W i j x)++L:=by rw[KT,l1,aF (by rw[gW];omega),Ly W x h]
def ado{N i j:Nat}(W:Nat->Nat->Int)(h:i<N)(x:Int):(ee N N W).set (2*i+1) (.aj 1 ((gV N (W i)).set j [aa x]) (N -1) 0)=ee N N (nt W i j x):=by rw[KT,Ly W x h]
def BW{N:Nat}{W:Nat->Nat->Int}{a:List V}(L:Mem)(h:cd (2*N+1) a=U):gu (2*N+1) a (ee N N W++L)=U:=by
 have b:2*N+1<=(ee N N W++L).length:=by rw[b0,gW];omega
 simp only[gu,h,be b,i9 (gW N N W) L,adj,cR]
def bb.h_(p:bb)(N:Nat):Prop:=(0<=p.src/\p.src<N)/\(0<=p.dst/\p.dst<N)/\1<=p.bs/\p.bs<=14400
structure l6(l:List bb)(N:Nat)(bH:Bool)(W:Nat->Nat->Int):Prop where
 nR:∀p∈l,(bH=U->p.bH=U)->W p.src.toNat p.dst.toNat<=p.bs
 rp:∀i j m,i<N->j<N->m<N->W i j<=W i m+W m j
 ng:∀D:Nat->Int,(∀i,i<N->0<=D i/\D i<=dL)->(∀p∈l,(bH=U->p.bH=U)->D p.dst.toNat<=D p.src.toNat+p.bs)->∀i j,i<N->j<N->D j -D i<=W i j
 iR:∀i j,i<N->j<N->0<W i j/\W i j<=dL
structure tf(l:List bb)(N:Nat)(bH:Bool)(k:Nat)(W:Nat->Nat->Int):Prop where
 nR:∀(i:Nat)(p:bb),i<k->l[i]? =I p->(bH=U->p.bH=U)->W p.src.toNat p.dst.toNat<=p.bs
 ng:∀D:Nat->Int,(∀i,i<N->0<=D i/\D i<=dL)->(∀p∈l,(bH=U->p.bH=U)->D p.dst.toNat<=D p.src.toNat+p.bs)->∀i j,i<N->j<N->D j -D i<=W i j
 iR:∀i j,i<N->j<N->0<W i j/\W i j<=dL
def S7{l:List bb}{N k:Nat}{bH:Bool}{W:Nat->Nat->Int}{p:bb}(h:tf l N bH k W)(e:l[k]? =I p)(c:¬(bH=U->p.bH=U)):tf l N bH (k+1) W:=
 ⟨λi q d al b=>by
   rcases hQ.1 d with a|a
   . exact h.nR i q a al b
   . subst a;rw[e] at al;cases al;exact aJ b c,h.ng,h.iR⟩
def Ex{l:List bb}{N k:Nat}{bH:Bool}{W:Nat->Nat->Int}{p:bb}(h:tf l N bH k W)(d:l[k]? =I p)(n:bH=U->p.bH=U)(a:p.h_ N):
 tf l N bH (k+1) (nt W p.src.toNat p.dst.toNat (min (W p.src.toNat p.dst.toNat) p.bs)):=by
 obtain⟨o,r,s,t⟩:=a;refine⟨λi q a al g=>?_,λD m f i j a c=>?_,λi j a c=>?_⟩
 . unfold nt;split
   . rename_i e;rcases hQ.1 a with b|b
     . have:=h.nR i q b al g;rw[e.1,e.2] at this;omega
     . subst b;rw[d] at al;cases al;omega
   . rename_i e;rcases hQ.1 a with b|b
     . exact h.nR i q b al g
     . subst b;rw[d] at al;cases al;exact aJ ⟨rfl,rfl⟩ e
 . have:=h.ng D m f i j a c;unfold nt;split
   . rename_i e;have:=f p (bI d) n;rw[<-e.1,<-e.2] at this⊢;omega
   . exact this
 . have:=h.iR i j a c;unfold nt;split
   . rename_i e;rw[<-e.1,<-e.2];simp only[dL] at*;omega
   . exact this
def hu(W:Nat->Nat->Int)(k i j:Nat):Nat->Nat->Int:=λa b=>if a<i∨(a=i/\b<j) then min (W a b) (W a k+W k b) else W a b
def aap{W:Nat->Nat->Int}{k N:Nat}(h:∀i j,i<N->j<N->0<W i j/\W i j<=dL)(b:k<N)(i j:Nat){a:Nat}(c:a<N):hu W k i j a k=W a k:=by have:=(h k k b b).1;unfold hu;split<;>omega
def aas{W:Nat->Nat->Int}{k N:Nat}(h:∀i j,i<N->j<N->0<W i j/\W i j<=dL)(a:k<N)(i j:Nat){b:Nat}(c:b<N):hu W k i j k b=W k b:=by have:=(h k k a a).1;unfold hu;split<;>omega
def aao(W:Nat->Nat->Int)(k i j:Nat):hu W k i j i j=W i j:=by unfold hu;rw[ax J]
def aar(W:Nat->Nat->Int)(k i j:Nat):nt (hu W k i j) i j (min (W i j) (W i k+W k j))=hu W k i (j+1):=by
 funext a b;unfold nt hu;by_cases h:a=i/\b=j
 . obtain⟨rfl,rfl⟩:=h;rw[aF ⟨rfl,rfl⟩,aF J]
 . rw[ax h];by_cases c:a<i∨(a=i/\b<j)
   . rw[aF c,aF J]
   . rw[ax c,ax J]
def aat(W:Nat->Nat->Int)(k:Nat):hu W k 0 0=W:=by funext a b;unfold hu;rw[ax J]
def aaq{N:Nat}(W:Nat->Nat->Int)(k i:Nat):∀a b,a<N->b<N->hu W k i N a b=hu W k (i+1) 0 a b:=λa b _ d=>by
 unfold hu;by_cases c:a<i∨(a=i/\b<N)
 . rw[aF c,aF J]
 . rw[ax c,ax J]
structure wc(l:List bb)(N:Nat)(bH:Bool)(k:Nat)(W:Nat->Nat->Int):Prop where
 nR:∀p∈l,(bH=U->p.bH=U)->W p.src.toNat p.dst.toNat<=p.bs
 rp:∀i j m,i<N->j<N->m<k->W i j<=W i m+W m j
 ng:∀D:Nat->Int,(∀i,i<N->0<=D i/\D i<=dL)->(∀p∈l,(bH=U->p.bH=U)->D p.dst.toNat<=D p.src.toNat+p.bs)->∀i j,i<N->j<N->D j -D i<=W i j
 iR:∀i j,i<N->j<N->0<W i j/\W i j<=dL
def S9{l:List bb}{N k:Nat}{bH:Bool}{W:Nat->Nat->Int}(x:∀p∈l,p.h_ N)(h:wc l N bH k W)(d:k<N):wc l N bH (k+1) (hu W k N 0):=by
 have e:∀a b,a<N->hu W k N 0 a b=min (W a b) (W a k+W k b):=λa b v=>by unfold hu;rw[aF (.inl v)]
 refine⟨λp r w=>?_,λi j m c f g=>?_,λD n o i j c f=>?_,λi j c f=>?_⟩
 . have:=h.nR p r w;obtain⟨y,_⟩:=x p r;rw[e _ _ J];omega
 . have z:=(h.iR k k d d).1;have q:m<N:=J;rw[e _ _ c,e _ _ c,e _ _ q];rcases hQ.1 g with g|rfl
   . have s:=h.rp i j m c f g;have t:=h.rp i k m c d g;have u:=h.rp k j m d f g;have A:=(h.iR k m d q).1;have B:=(h.iR m k q d).1;omega
   . omega
 . have s:=h.ng D n o i j c f;have t:=h.ng D n o i k c d;have u:=h.ng D n o k j d f;rw[e _ _ c];omega
 . have s:=h.iR i j c f;have t:=h.iR i k c d;have u:=h.iR k j d f;rw[e _ _ c];omega
def adm(N n:Nat)(a:n<=64):cw ad 1 24 (.an 0 n 0 n) (.an (2*n+1+1) 0 0 1) (ee N n (λ_ _=>dL)++[au.aj 1 (gV N λ_=>dL) (N -1) 0]++[au.b7 [.an (2*n+1) (N -1) 0 N] 0])=
 I (.an 0 (n+1) 0 (n+1),ee N (n+1) λ_ _=>dL):=adl N n a
def cE{α:Type}(M L:List α):(M++L)[M.length]? =L[0]? :=by rw[fH J,hA]
def S8(l:List bb)(N:Nat)(bH:Bool):tf l N bH 0 (λ_ _=>dL):=
 ⟨λi p a=>aJ a (c9 _),λD b _ i j a c=>by have:=b i a;have:=b j c;omega,λi j _ _=>by simp only[dL];omega⟩
def KD(l:List bb)(c:cg)(N:Nat)(bH:Bool)(ay:N<=64)(X:∀p∈l,p.h_ N)(aA:l.length<=maxLen):
 bq aH 188 [.slice (l.map bb.row) c,aa N,.bool bH] (λv=>∃W,v=m6 N W/\l6 l N bH W):=by
 have B:maxLen=9223372036854775807:=by rfl
 refine bB WP ?_;have aw:ee N 0 (λ_ _=>dL)=[au.b7 [] 0]:=rfl;refine aL @oF.eq_1 ?_;refine d4 N (λi d M=>d=[.slice (l.map bb.row) c,aa N,.bool bH,.an 0 i 0 i,aa i]/\M=ee N i λ_ _=>dL) ⟨rfl,rfl⟩ ?_ ?_
 . rintro i d M f E ⟨rfl,rfl⟩;have K:0<N:=J;refine aL E ?_;refine d4 N (λk d M=>d=[.slice (l.map bb.row) c,aa N,.bool bH,.an 0 i 0 i,aa i,ui i k,aa k]/\M=(ee N i λ_ _=>dL)++no k) ⟨rfl,by simp[no]⟩ ?_ ?_
   . rintro k d M h F ⟨rfl,rfl⟩;have r:=ab2 N i k (λ_ _=>dL) J;refine bN F r ?_;exact bE h ⟨rfl,rfl⟩
   rintro d M ⟨rfl,rfl⟩;have r:=adm N i J;simp-implicitDefEqProofs (disch:=omega) only[go_sem,bV,ab4 K,ab1 K,oF,gW,r];exact bE f ⟨rfl,rfl⟩
 rintro d M ⟨rfl,rfl⟩;refine aL @bV ?_;refine c6 l (λi d M=>∃W,tf l N bH i W/\d=[.slice (l.map bb.row) c,aa N,.bool bH,.an 0 N 0 N,aa i]/\M=ee N N W) ⟨_,S8 l N bH,rfl,rfl⟩ ?_ ?_
 . rintro i p d M o f E ⟨W,g,rfl,rfl⟩;have aq:=X p (bI o);obtain⟨⟨O,P⟩,⟨Q,R⟩,S,T⟩:=aq;have s:=λL=>a0 (vY N N W) L;have t:=λL=>a0 (vZ (N:=N) W (show p.src.toNat<N by omega)) L;have u:=A9 (N:=N) (show p.src.toNat<N by omega);have w:=pb (W p.src.toNat) (show p.dst.toNat<N by omega);have y:=adp (N:=N) (j:=p.dst.toNat) W (show p.src.toNat<N by omega);have z:decide (p.src.toNat<N)=U:=bR;have A:decide (p.dst.toNat<N)=U:=bR;have q:∀L:Mem,(ee N N W++L)[2*N+1]? =L[0]? :=λL=>by
    have:=cE (ee N N W) L;rwa [gW] at this
   have af:∀(L:Mem)(x:au),(ee N N W++L).set (2*N+1) x=ee N N W++L.set 0 x:=λL x=>by rw[l1,ax (by rw[gW];omega),gW,hA]
   refine he E o @bb.row.eq_1 @gW q af ?_;apply dt<;>intro C
   . refine od s t u w y z A q @ue @pc @gW ?_;refine cN f (BW _ (by simp[cC,aE,cd,V.under])) ⟨_,Ex g o (λ_=>C) ⟨⟨O,P⟩,⟨Q,R⟩,S,T⟩,rfl,?_⟩;exact i9 (gW _ _ _) _
   refine ah ?_;apply dt<;>intro H
   . refine aL @gW ?_;refine cN f (BW _ (by simp[cC,aE,cd,V.under])) ⟨_,S7 g o (λe=>by rw[e H] at C;cases C),rfl,?_⟩;exact i9 (gW _ _ _) _
   refine od s t u w y z A q @ue @pc @gW ?_;refine cN f (BW _ (by simp[cC,aE,cd,V.under])) ⟨_,Ex g o (λe=>by rw[H] at e;cases e) ⟨⟨O,P⟩,⟨Q,R⟩,S,T⟩,rfl,?_⟩;exact i9 (gW _ _ _) _
 rintro d M ⟨G,D,rfl,rfl⟩;have av:wc l N bH 0 G:=⟨λp o ap=>by obtain⟨i,f⟩:=eb o;exact D.nR i p (az.1 f).1 f ap,λi j m _ _ B=>aJ B (c9 _),D.ng,D.iR⟩;refine aL @bV ?_;refine d4 N (λk d M=>∃W,wc l N bH k W/\d=[aa N,.an 0 N 0 N,aa k]/\M=ee N N W) ⟨G,av,rfl,rfl⟩ ?_ ?_;rotate_left
 . rintro d M ⟨W,g,rfl,rfl⟩;refine aL @bV ?_;show hC (cY (ee N N W) 0 20 (.an 0 N 0 N)) _;rw[adn];exact⟨by simp[m6,V.under,b4],⟨W,rfl,g.nR,λi j m f n B=>g.rp i j m f n B,g.ng,g.iR⟩,by simp,rfl⟩
 rintro k d M h F ⟨W,g,rfl,rfl⟩;refine aL F ?_;refine d4 N (λi d M=>d=[aa N,.an 0 N 0 N,aa k,aa i]/\M=ee N N (hu W k i 0)) ⟨rfl,by rw[aat]⟩ ?_ ?_;rotate_left
 . rintro d M ⟨rfl,rfl⟩;refine aL @bV ?_;exact bE h ⟨_,S9 X g h,rfl,rfl⟩
 rintro i d M f aS ⟨rfl,rfl⟩;refine aL aS ?_;refine d4 N (λj d M=>d=[aa N,.an 0 N 0 N,aa k,aa i,aa j]/\M=ee N N (hu W k i j)) ⟨rfl,rfl⟩ ?_ ?_;rotate_left
 . rintro d M ⟨rfl,rfl⟩;refine aL @bV ?_;refine bE f ⟨rfl,adi λa b r ao=>aaq W k i a b r ao⟩
 rintro j d M n ar ⟨rfl,rfl⟩;have s:=vY N N (hu W k i j);have t:=vZ (N:=N) (hu W k i j) f;have Y:=vZ (N:=N) (hu W k i j) h;have u:=A9 (N:=N) f;have Z:=A9 (N:=N) h;have w:=pb (hu W k i j i) n;have ab:=pb (hu W k i j i) h;have ae:=pb (hu W k i j k) n;have y:=ado (N:=N) (j:=j) (hu W k i j) f;have z:decide (i<N)=U:=be f;have A:decide (j<N)=U:=be n;have q:decide (k<N)=U:=be h;have ak:=aap g.iR h i j f;have al:=aas g.iR h i j n;have am:=aao W k i j;have ai:=g.iR i k f h;have aj:=g.iR k j h n;simp only[dL] at ai aj;simp-implicitDefEqProofs (disch:=omega) only[go_sem,ar,s,t,Y,u,Z,w,ab,ae,y,z,A,q,ue,pc,ak,al,am];refine bE n ⟨rfl,?_⟩;rw[aar]
def jn(W F:Nat->Nat->Int)(i k:Nat):List bb:=
 if i=k∨14400<W i k then[] else⟨i,k,W i k,decide (F i k=W i k)⟩::(if W i k<F i k/\F i k<=14400 then[⟨i,k,F i k,U⟩] else[])
def jp(W F:Nat->Nat->Int)(i n:Nat):List bb:=(b8 n).flatMap (jn W F i)
def fb(W F:Nat->Nat->Int)(N n:Nat):List bb:=(b8 n).flatMap λi=>jp W F i N
def Sc(W F:Nat->Nat->Int)(i k:Nat):(jn W F i k).length<=2:=by
 unfold jn;split
 . simp
 . split<;>simp
theorem z5{α:Type}{f:Nat->List α}{b:Nat}(h:∀i,(f i).length<=b):∀n,((b8 n).flatMap f).length<=n*b
 |0=>by simp
 |n+1=>by have:=z5 h n;have:=h n;rw[List.range_succ,List.flatMap_append,b0];simp only[List.flatMap_cons,List.flatMap_nil,ez,Nat.succ_mul];omega
def ms(W F:Nat->Nat->Int)(i n:Nat):jp W F i (n+1)=jp W F i n++jn W F i n:=by simp[jp,List.range_succ]
def zx(W F:Nat->Nat->Int)(N n:Nat):fb W F N (n+1)=fb W F N n++jp W F n N:=by simp[fb,List.range_succ]
def xt(W F:Nat->Nat->Int)(i n:Nat):(jp W F i n).length<=n*2:=z5 (Sc W F i) n
def Ea(W F:Nat->Nat->Int)(N n:Nat)(a:N<=64):(fb W F N n).length<=n*128:=
 z5 (λi=>fJ (xt W F i N) J) n
def Jw{N i:Nat}(W:Nat->Nat->Int)(h:i<N):((b8 N).map λi=>[V.slice (gV N (W i)) .bF])[i]? =I [.slice (gV N (W i)) .bF]:=by simp[h]
def q7(l:List bb)(ver:Nat):V:=match l with|[]=>.slice [] .full|_::_=>.an 0 ver 0 l.length
def p6(l:List bb)(ver:Nat):Mem:=match l with|[]=>[]|_::_=>[.aj 4 (l.map bb.row) ver 0]
theorem J0(l:List bb)(ver:Nat)(p:bb)(c:l.length<=100000):∃a,cw ad 4 32 (q7 l ver) (.slice [[aa p.src,aa p.dst,aa p.bs,.bool p.bH]] .full) (p6 l ver)=I (q7 (l++[p]) a,p6 (l++[p]) a):=by
 cases l with
 |nil=>exact⟨0,by simp[q7,p6,cw,dg,eU,dP,bb.row]⟩
 |cons q l=>refine⟨ver+1,?_⟩;have b:decide ((l.length+1+1)*64<=2^48)=U:=be (by simp only[cc] at c;omega);simp only[q7,p6,cw,dg,dP,cc,eu,dm,beq_self_eq_true,bi,eU,hg,cz,cR,Nat.reduceMul,b,List.set_cons_zero,fG,b0,gg,iL,jD,bb.row]
def abk(l:List bb)(c:cg)(N:Nat)(j:N<=64)(y:∀p∈l,p.h_ N)(z:l.length<=maxLen):
 bq aH 159 [.slice (l.map bb.row) c,aa N] (λv=>∃W F d,v=.slice ((fb W F N N).map bb.row) d/\l6 l N ad W/\l6 l N U F):=by
 have T:maxLen=9223372036854775807:=by rfl
 refine bB WL (ah ?_);refine d2 (KD l c N ad j y z) ?_;rintro v ⟨W,rfl,B⟩;refine ah ?_;refine d2 (KD l c N U j y z) ?_;rintro v ⟨G,rfl,A⟩;refine ah ?_;refine d4 N (λi b M=>∃ver,b=[aa N,m6 N W,m6 N G,q7 (fb W G N i) ver,aa i]/\M=p6 (fb W G N i) ver) ⟨0,rfl,rfl⟩ ?_ ?_;rotate_left
 . rintro b M ⟨ver,rfl,rfl⟩;refine aL @bV ?_;rw[Tf];show hC (cY (p6 (fb W G N N) ver) 0 20 (q7 (fb W G N N) ver)) _;have m:∃d,cY (p6 (fb W G N N) ver) 0 20 (q7 (fb W G N N) ver)=I (.slice ((fb W G N N).map bb.row) d):=by
    cases fb W G N N with
    |nil=>exact⟨.full,rfl⟩
    |cons q r=>refine⟨.bF,?_⟩;have:=tQ (M:=p6 (q::r) ver) (bf:=0) (n:=19) (id:=0) (ver:=ver) (start:=0) (len:=(q::r).length) (rows:=(q::r).map bb.row) (sz:=4) (fz:=0) rfl rfl (by simp);rw[hN,eS (by simp)] at this;exact this
   obtain⟨d,m⟩:=m;rw[m];exact⟨by simp[V.under,b4],⟨W,G,d,rfl,B,A⟩,by simp,rfl⟩
 rintro i b M o aS ⟨ver,rfl,rfl⟩;have Q:=Ea W G N i j;refine aL aS ?_;refine d4 N (λk b M=>∃ver,b=[aa N,m6 N W,m6 N G,q7 (fb W G N i++jp W G i k) ver,aa i,aa k]/\M=p6 (fb W G N i++jp W G i k) ver) ⟨ver,by simp[jp,cC,aE],by simp[jp]⟩ ?_ ?_;rotate_left
 . rintro b M ⟨ver,rfl,rfl⟩;refine aL @bV ?_;refine bE o ⟨ver,?_,?_⟩
   . rw[zx];rfl
   . rw[zx]
 rintro k b M a C ⟨ver,rfl,rfl⟩;have S:=xt W G i k;have t:=Jw (N:=N) W o;have f:=Jw (N:=N) G o;have u:=pb (W i) a;have g:=pb (G i) a;have E:(fb W G N i++jp W G i k).length<=100000:=by rw[b0];omega
 refine bN C @m6.eq_1 ?_;apply aW<;>intro K
 . have e:jn W G i k=[]:=by rw[jn,aF (.inl J)]
   refine ah ?_;refine bE a ⟨ver,?_,?_⟩
   . rw[ms,e,ez];rfl
   . rw[ms,e,ez]
 have R:¬i=k:=J;refine b6 t u @m6.eq_1 ?_;apply aW<;>intro L
 . have e:jn W G i k=[]:=by rw[jn,aF (.inr J)]
   refine ah ?_;refine bE a ⟨ver,?_,?_⟩
   . rw[ms,e,ez];rfl
   . rw[ms,e,ez]
 have h:∀r,(if W i k<G i k/\G i k<=14400 then[(⟨i,k,G i k,U⟩:bb)] else[])=r->jn W G i k=⟨i,k,W i k,decide (G i k=W i k)⟩::r:=λr D=>by rw[jn,ax J,D]
 obtain⟨s,w⟩:=J0 (fb W G N i++jp W G i k) ver ⟨i,k,W i k,decide (G i k=W i k)⟩ E;simp only at w;refine he t f u g @m6.eq_1 w ?_;apply cF<;>intro O
 . have e:=h [] (by rw[ax J]);refine ah ?_;refine bE a ⟨s,?_,?_⟩
   . rw[ms,e,<-cS];rfl
   . rw[ms,e,<-cS]
 refine b6 f g @m6.eq_1 ?_;apply cF<;>intro P
 . have e:=h [] (by rw[ax J]);refine ah ?_;refine bE a ⟨s,?_,?_⟩
   . rw[ms,e,<-cS];rfl
   . rw[ms,e,<-cS]
 have e:=h [⟨i,k,G i k,U⟩] (by rw[aF ⟨J,J⟩]);obtain⟨H,x⟩:=J0 (fb W G N i++jp W G i k++[⟨i,k,W i k,decide (G i k=W i k)⟩]) s ⟨i,k,G i k,U⟩ (by rw[b0,b0];simp;omega);simp only at x;refine d0 f g @m6.eq_1 x ?_;refine bE a ⟨H,?_,?_⟩
 . rw[ms,e];simp[cC,aE]
 . rw[ms,e];simp
def yK(l:List bb)(N:Nat)(i:Nat)(p:bb):Prop:=p.h_ N/\p.src≠p.dst/\∀(k:Nat)(o:bb),k<i->l[k]? =I o->¬(o.src=p.src/\o.dst=p.dst/\o.bH=p.bH)
def nJ(l:List bb)(N:Nat):Prop:=∀(i:Nat)(p:bb),l[i]? =I p->yK l N i p
def qm(l:List bb)(N:Nat):Prop:=∃W F,l6 l N ad W/\l6 l N U F/\l=fb W F N N
def ab3{p q:bb}(h:(decide (p.src=q.src)&&(decide (p.dst=q.dst)&&(decide (p.bs=q.bs)&&(decide (p.bH=q.bH)&&U))))=U):p=q:=by simp only[bL,cZ,and_true] at h;cases p;cases q;simp only[bb.mk.injEq];exact h
def abq(n:ak)(P:n.wf)(K:n.aB.length<=64):bq aH 105 [.agg n.row] (e0 (nJ n.bw n.aB.length/\qm n.bw n.aB.length)):=by
 have V:maxLen=9223372036854775807:=by rfl
 have R:=P.bw.2;refine bB W3 (ah ?_);refine c6 n.bw (λi b M=>b=[.ptr 0 0,aa i]/\M=[.box n.row]/\∀(j:Nat)(p:bb),j<i->n.bw[j]? =I p->yK n.bw n.aB.length j p) ⟨rfl,rfl,λj p a=>aJ a (c9 _)⟩ ?_ ?_
 . rintro i p b M c f m ⟨rfl,rfl,H⟩;refine d0 m c @ak.row.eq_1 @bb.row.eq_1 ?_;refine bG (jP _ _ _) (ah ?_);apply cU<;>intro B
   . refine ah ?_;exact e0.cX _ _ J
   rw[kG] at B;refine ah ?_;refine bG (jP _ _ _) (ah ?_);apply cU<;>intro C
   . refine ah ?_;exact e0.cX _ _ J
   rw[kG] at C;refine ah ?_;apply aW<;>intro D
   . refine ah ?_;exact e0.cX _ _ J
   refine ah ?_;refine bG (jP _ _ _) (ah ?_);apply cU<;>intro t
   . refine ah ?_;exact e0.cX _ _ J
   rw[kG] at t;refine ah ?_;refine d4 i (λk b M=>b=[.ptr 0 0,aa i,.ptr 1 0,aa k]/\M=[.box n.row,.box p.row]/\∀(j:Nat)(o:bb),j<k->n.bw[j]? =I o->¬(o.src=p.src/\o.dst=p.dst/\o.bH=p.bH)) ⟨rfl,rfl,λj o a=>aJ a (c9 _)⟩ ?_ ?_
   . rintro k b M r O ⟨rfl,rfl,g⟩;obtain⟨o,d⟩:∃o,n.bw[k]? =I o:=⟨n.bw[k],by simp⟩;have last:¬(o.src=p.src/\o.dst=p.dst/\o.bH=p.bH)->∀(j:Nat)(o:bb),j<k+1->n.bw[j]? =I o->¬(o.src=p.src/\o.dst=p.dst/\o.bH=p.bH):=λQ j x a s=>by
      rcases hQ.1 a with h|h
      . exact g j x h s
      . subst h;rw[d] at s;cases s;exact Q
     refine d0 O d @ak.row.eq_1 @bb.row.eq_1 ?_;apply cF<;>intro w
     . refine ah ?_;exact cN r rfl ⟨rfl,rfl,last λe=>w e.1⟩
     refine ah ?_;apply cF<;>intro y
     . refine ah ?_;exact cN r rfl ⟨rfl,rfl,last λe=>y e.2.1⟩
     refine ah ?_;apply cF<;>intro z
     . refine ah ?_;exact cN r rfl ⟨rfl,rfl,last λe=>z e.2.2⟩
     refine ah ?_;exact e0.cX _ _ J
   rintro b M ⟨rfl,rfl,g⟩;refine aL @bV ?_;refine cN f rfl ⟨rfl,rfl,λj o a d=>?_⟩;rcases hQ.1 a with h|h
   . exact H j o h d
   . subst h;rw[c] at d;cases d;exact⟨⟨⟨J,J⟩,⟨J,J⟩,t⟩,D,g⟩
 rintro b M ⟨rfl,rfl,H⟩;have u:nJ n.bw n.aB.length:=λi p c=>H i p (az.1 c).1 c;have N:∀p∈n.bw,p.h_ n.aB.length:=λp c=>by obtain⟨i,f⟩:=eb c;exact(u i p f).1
 refine bN @bV @ak.row.eq_1 ?_;refine d2 (abk n.bw n.la n.aB.length K N R) ?_;rintro v ⟨W,G,A,rfl,L,F⟩;refine ah ?_;apply cF<;>intro S
 . refine ah ?_;exact e0.cX _ _ J
 have T:(fb W G n.aB.length n.aB.length).length=n.bw.length:=J;refine ah ?_;refine c6 (fb W G n.aB.length n.aB.length) (λi b M=>b=[.ptr 0 0,.slice ((fb W G n.aB.length n.aB.length).map bb.row) A,aa i]/\M=[.box n.row]/\∀j,j<i->(fb W G n.aB.length n.aB.length)[j]? =n.bw[j]?) ⟨rfl,rfl,λj a=>aJ a (c9 _)⟩ ?_ ?_;rotate_left
 . rintro b M ⟨rfl,rfl,l⟩;refine aL @bV ?_;refine e0.ok _ ⟨u,W,G,L,F,?_⟩;refine lp λj=>?_;by_cases a:j<(fb W G n.aB.length n.aB.length).length
   . exact(l j a).symm
   . rw[jd J,jd J]
 rintro i q b M al f m ⟨rfl,rfl,l⟩;obtain⟨p,c⟩:∃p,n.bw[i]? =I p:=⟨n.bw[i]'J,by simp⟩;refine es m al c @ak.row.eq_1 @bb.row.eq_1 ?_;apply dt<;>intro E
 . have e:=ab3 (p:=q) (q:=p) (by simpa using E);refine ah ?_;refine cN f rfl ⟨rfl,rfl,λj a=>?_⟩;rcases hQ.1 a with h|h
   . exact l j h
   . subst h;rw[al,c,e]
 refine ah ?_;exact e0.cX _ _ J
def abl(f:aN)(o:f.wf):bq aH 106 [.agg f.row] (e0 (g4 f=(0,0))):=by
 have O:maxLen=9223372036854775807:=by rfl
 have N:=o.2.1;refine bB WN (aL @aN.row.eq_1 ?_);refine bG (jP _ _ _) (ah ?_);apply cU<;>intro v
 . refine ah ?_;exact e0.cX _ _ J
 refine ah ?_;refine bG (jP _ _ _) (ah ?_);apply cU<;>intro w
 . refine ah ?_;exact e0.cX _ _ J
 refine ah ?_;refine bG (jP _ _ _) (ah ?_);apply cU<;>intro x
 . refine ah ?_;exact e0.cX _ _ J
 refine ah ?_;apply aW<;>intro L
 . refine ah ?_;exact e0.cX _ _ J
 have y:¬16<f.bU.length:=J;have G:g4 f=oM (mz f.bU) f.bU.length:=by simp[g4,v,w,x,y]
 refine ah ?_;refine c6 f.bU (λi b M=>(∀k,k<i->mz f.bU k=0)/\b=[.ptr 0 0,aa i]/\M=[.box f.row]) ⟨λk a=>aJ a (c9 k),rfl,rfl⟩ ?_ ?_;rotate_left
 . rintro b M ⟨e,rfl,rfl⟩;refine bN @bV @aN.row.eq_1 ?_;exact e0.ok _ (by rw[G,EX e])
 rintro i p b M m B z ⟨e,rfl,rfl⟩;have A:mz f.bU i=if jr p.id=ad then 12 else if p.id∈(f.bU.take i).map cv.id then 6 else if p.right=ad then 2 else 0:=by simp only[mz,m]
 refine d0 z m @cv.row.eq_1 @aN.row.eq_1 ?_;refine bG (ws _ (o.1 p (bI m)).1) (ah ?_);apply cU<;>intro q
 . refine ah ?_;exact e0.cX _ _ J
 refine ah ?_;refine d4 i (λk b M=>b=[.ptr 0 0,aa i,.ptr 1 0,aa k]/\M=[.box f.row,.box p.row]/\∀(j:Nat)(t:cv),j<k->f.bU[j]? =I t->t.id≠p.id) ⟨rfl,rfl,λj s l=>aJ l (c9 _)⟩ ?_ ?_
 . rintro k b M a C ⟨rfl,rfl,d⟩;obtain⟨t,c⟩:∃t,f.bU[k]? =I t:=⟨f.bU[k],by simp⟩;refine d0 C c @cv.row.eq_1 @aN.row.eq_1 ?_;apply aW<;>intro g
   . refine ah ?_;exact e0.cX _ _ J
   . refine ah ?_;refine bE a ⟨rfl,rfl,λj u l n=>?_⟩;rcases hQ.1 l with h|h
     . exact d j u h n
     . subst h;rw[c] at n;cases n;exact g
 rintro b M ⟨rfl,rfl,d⟩;have r:¬p.id∈(f.bU.take i).map cv.id:=λE=>by obtain⟨t,c,g⟩:=gY.1 E;obtain⟨k,a,D⟩:=t5 c;exact d k t a D g
 refine b6 @bV @cv.row.eq_1 @aN.row.eq_1 ?_;refine bG (jP _ _ _) (ah ?_);apply cU<;>intro aD
 . refine ah ?_;exact e0.cX _ _ J
 refine ah ?_;refine bG (jP _ _ _) (ah ?_);apply cU<;>intro ba
 . refine ah ?_;exact e0.cX _ _ J
 refine ah ?_;refine bG (jP _ _ _) (ah ?_);apply cU<;>intro bA
 . refine ah ?_;exact e0.cX _ _ J
 refine ah ?_;refine bG (jP _ _ _) (ah ?_);apply cU<;>intro H
 . refine ah ?_;exact e0.cX _ _ J
 refine ah ?_;refine bG (jP _ _ _) (ah ?_);apply cU<;>intro K
 . refine ah ?_;exact e0.cX _ _ J
 have F:p.right=U:=by simp[cv.right,aD,ba,bA,H,K]
 refine ah ?_;refine cN B rfl ⟨λk a=>?_,rfl,rfl⟩;rcases hQ.1 a with h|h
 . exact e k h
 . subst h;rw[A,ax (by simp[q]),ax r,ax (by simp[F])]
structure wk(n:ak):Prop where
 aB:wr n.aB
 ey:uK n.ey
 ar:tp n
 bj:tk n
 sO:nJ n.bw n.aB.length
 Sy:qm n.bw n.aB.length
 bQ:g4 n.bQ=(0,0)
structure aG where
 src:Int
 dst:Int
 aM:Int
 hE:Bool
 aY:Int
 bD:Int
 bH:Bool
 na:Bool
 dn:Int
 hc:Bool
def aG.row(q:aG):List V:=[aa q.src,aa q.dst,aa q.aM,.bool q.hE,aa q.aY,aa q.bD,.bool q.bH,.bool q.na,aa q.dn,.bool q.hc]
structure ka(N:Nat)(q:aG):Prop where
 src:0<=q.src/\q.src<N
 dst:0<=q.dst/\q.dst<N
 aM:0<=q.aM/\q.aM<=3155932800
 aY:0<=q.aY/\q.aY<=8
 bD:0<=q.bD/\q.bD<=86400
 dn:0<=q.dn/\q.dn<=255
 one:¬(q.hc=U/\q.hE=U)
def nE(G:Prop)(v:V):Prop:=∃p i e:Int,v=.tuple [aa p,aa i,aa e]/\(e=0->G)
def nE.cX{G:Prop}(p i e:Int)(a:e≠0):nE G (.tuple [aa p,aa i,aa e]):=⟨p,i,e,rfl,λh=>aJ h a⟩
def abj(n:ak)(a:n.wf):bq aH 54 [.agg n.row] (nE (wk n)):=by
 have L:maxLen=9223372036854775807:=by rfl
 have N:=a.ar.2;have K:=a.bj.2;refine bB WJ (aL @ak.row.eq_1 ?_);refine d2 (abt n.aB n.ij a.aB.1 a.aB.2) ?_;rintro v ⟨hW,B,rfl,f⟩;refine ah ?_;apply cF<;>intro q
 . refine ah ?_;exact nE.cX _ _ _ q
 have f:=f q;refine ah ?_;refine d2 (abr n.ey n.rc a.ey.1 a.ey.2) ?_;rintro v ⟨O,C,rfl,l⟩;refine ah ?_;apply cF<;>intro s
 . refine ah ?_;exact nE.cX _ _ _ s
 have l:=l s;refine ah ?_;apply aW<;>intro F
 . refine ah ?_;exact nE.cX _ _ _ J
 refine ah ?_;refine c6 n.ar (λi d M=>d=[.ptr 0 0,aa i]/\M=[.box n.row]/\∀j,j<i->yP n j) ⟨rfl,rfl,λj c=>aJ c (c9 _)⟩ ?_ ?_
 . rintro i r d M b p m ⟨rfl,rfl,H⟩;refine bN m @ak.row.eq_1 ?_;refine d2 (abs n i r a b) ?_;rintro v ⟨e,rfl,o⟩;refine ah ?_;apply aW<;>intro g
   . refine ah ?_;refine bE p ⟨rfl,rfl,λj c=>?_⟩;rcases hQ.1 c with h|h
     . exact H j h
     . subst h;exact o g
   . refine ah ?_;exact nE.cX _ _ _ g
 rintro d M ⟨rfl,rfl,x⟩;have A:tp n:=⟨J,λi r b=>x i (az.1 b).1 r b⟩;refine bN @bV @ak.row.eq_1 ?_;apply aW<;>intro G
 . refine ah ?_;exact nE.cX _ _ _ J
 refine ah ?_;refine c6 n.bj (λi d M=>d=[.ptr 0 0,aa i]/\M=[.box n.row]/\∀j,j<i->qr n j) ⟨rfl,rfl,λj c=>aJ c (c9 _)⟩ ?_ ?_
 . rintro i r d M b p m ⟨rfl,rfl,H⟩;refine bN m @ak.row.eq_1 ?_;refine d2 (abp n i r a b H) ?_;rintro v ⟨e,rfl,o⟩;refine ah ?_;apply aW<;>intro g
   . refine ah ?_;refine bE p ⟨rfl,rfl,λj c=>?_⟩;rcases hQ.1 c with h|h
     . exact H j h
     . subst h;exact o g
   . refine ah ?_;exact nE.cX _ _ _ g
 rintro d M ⟨rfl,rfl,w⟩;have z:tk n:=⟨J,λi r b=>w i (az.1 b).1 r b⟩;refine bN @bV @ak.row.eq_1 ?_;refine d2 (abq n a f.1) ?_;rintro v ⟨P,D,rfl,u⟩;refine ah ?_;apply cF<;>intro k
 . refine ah ?_;exact nE.cX _ _ _ k
 refine ah ?_;refine d2 (abl n.bQ a.bQ) ?_;rintro v ⟨Q,E,rfl,y⟩;refine ah ?_;apply cF<;>intro t
 . refine ah ?_;exact nE.cX _ _ _ t
 refine ah ?_;exact⟨_,_,_,rfl,λ_=>⟨f,l,A,z,(u k).1,(u k).2,y t⟩⟩
def uF(G:Prop)(v:V):Prop:=∃b:Bool,v=.bool b/\(b=U->G)
def KE(n:ak)(a:n.wf):bq aH 25 [.agg n.row] (uF (wk n)):=by refine bB WV (aL @ak.row.eq_1 ?_);refine d2 (abj n a) ?_;rintro v ⟨p,i,e,rfl,h⟩;refine ah ?_;exact⟨_,rfl,λg=>h (by simpa using g)⟩
structure di(n:ak):Prop where
 ok:wk n
 aB:n.aB.length<=5
 ar:n.ar.length<=7
 bj:n.bj.length<=30
 bw:n.bw.length<=60
 aO:∀r∈n.ar,r.aO.length<=6
def abm(n:ak)(k:n.wf):bq aH 7 [.agg n.row] (uF (di n)):=by
 have u:maxLen=9223372036854775807:=by rfl
 have w:=k.ar.2;have m7:uF (di n) (.bool ad):=⟨ad,rfl,λh=>by cases h⟩;refine bB WR (aL @ak.row.eq_1 ?_);apply aW<;>intro o
 . refine ah ?_;exact m7
 refine ah ?_;apply aW<;>intro p
 . refine ah ?_;exact m7
 refine ah ?_;apply aW<;>intro q
 . refine ah ?_;exact m7
 refine ah ?_;apply aW<;>intro s
 . refine ah ?_;exact m7
 refine ah ?_;refine c6 n.ar (λi f M=>f=[.ptr 0 0,aa i]/\M=[.box n.row]/\∀(j:Nat)(r:aV),j<i->n.ar[j]? =I r->r.aO.length<=6) ⟨rfl,rfl,λj r d=>aJ d (c9 _)⟩ ?_ ?_
 . rintro i r f M c a m ⟨rfl,rfl,H⟩;refine d0 m c @ak.row.eq_1 @aV.row.eq_1 ?_;apply aW<;>intro t
   . refine ah ?_;exact m7
   refine ah ?_;refine bE a ⟨rfl,rfl,λj x d e=>?_⟩;rcases hQ.1 d with h|h
   . exact H j x h e
   . subst h;rw[c] at e;cases e;omega
 rintro f M ⟨rfl,rfl,H⟩;refine bN @bV @ak.row.eq_1 ?_;refine d2 (KE n k) ?_;rintro v ⟨b,rfl,l⟩;refine ah ?_;refine⟨b,rfl,λg=>⟨l g,J,J,J,J,λr c=>?_⟩⟩;obtain⟨i,a⟩:=eb c;exact H i r (az.1 a).1 a
def abn(N:Nat)(q:aG)(j:(N:Int)<=1000):bq aH 26 [aa N,.agg q.row] (uF (ka N q)):=by
 have m7:uF (ka N q) (.bool ad):=⟨ad,rfl,λh=>by cases h⟩;refine bB Xc (aL @aG.row.eq_1 ?_);refine bG (tR _ _ _) (ah ?_);apply cU<;>intro g
 . refine ah ?_;exact m7
 refine ah ?_;refine bG (tR _ _ _) (ah ?_);apply cU<;>intro i
 . refine ah ?_;exact m7
 refine ah ?_;refine bG (tR _ _ _) (ah ?_);apply cU<;>intro a
 . refine ah ?_;exact m7
 refine ah ?_;refine bG (tR _ _ _) (ah ?_);apply cU<;>intro b
 . refine ah ?_;exact m7
 refine ah ?_;refine bG (tR _ _ _) (ah ?_);apply cU<;>intro c
 . refine ah ?_;exact m7
 refine ah ?_;refine bG (tR _ _ _) (ah ?_);apply cU<;>intro d
 . refine ah ?_;exact m7
 rw[kG] at g i a b c d;have mk:¬(q.hc=U/\q.hE=U)->ka N q:=λh=>⟨J,J,a,b,c,d,h⟩;refine ah ?_;apply dt<;>intro f
 . refine ah ?_;exact⟨_,rfl,λh=>mk λe=>by rw[e.2] at h;cases h⟩
 . refine ah ?_;exact⟨_,rfl,λh=>mk λe=>by rw[e.1] at f;cases f⟩
def abi(n:ak)(q:aG)(g:n.wf):bq aH 8 [.agg n.row,.agg q.row] (eA (wk n/\ka n.aB.length q)):=by
 refine bB Xa (aL @ak.row.eq_1 ?_);refine d2 (KE n g) ?_;rintro v ⟨b,rfl,e⟩;refine ah ?_;apply dt<;>intro c
 . refine ah ?_;exact⟨_,rfl,λh=>aJ h (by decide)⟩
 have a:=e (by simpa using c);have j:=a.aB.1;refine aL @aG.row.eq_1 ?_;refine d2 (abn n.aB.length q J) ?_;rintro v ⟨i,rfl,f⟩;refine ah ?_;apply dt<;>intro d
 . refine ah ?_;exact⟨_,rfl,λ_=>⟨a,f (by simpa using d)⟩⟩
 refine ah ?_;exact⟨_,rfl,λh=>aJ h (by decide)⟩
structure is{α:Type}[DecidableEq α](c:en)(bZ:α->V):Prop where
 key:∀x,iW c (bZ x)=U
 eq:∀x y,gF c (bZ x) (bZ y)=I (decide (x=y))
section
variable{α:Type}[DecidableEq α]{c:en}{bZ:α->V}
def bX(bZ:α->V)(l:List (α×V)):List (V×V):=l.map λe=>(bZ e.1,e.2)
theorem tV(h:is c bZ)(x:α):∀l:List (α×V),k3 c (bZ x) (bX bZ l)=U
 |[]=>rfl
 |e::l=>by show((gF c (bZ x) (bZ e.1)).isSome&&k3 c (bZ x) (bX bZ l))=U;rw[tV h x l,h.eq];rfl
def eX(x:α)(l:List (α×V)):Option V:=(l.find? λe=>decide (x=e.1)).map (·.2)
theorem Jj(h:is c bZ)(x:α):∀l:List (α×V),nZ c (bZ x) (bX bZ l)=eX x l
 |[]=>rfl
 |e::l=>by show(bif (gF c (bZ x) (bZ e.1)).getD ad then I e.2 else nZ c (bZ x) (bX bZ l))=_;rw[Jj h x l,h.eq];simp only[eX,List.find?_cons];cases decide (x=e.1)<;>rfl
theorem Jo(h:is c bZ)(x:α)(v:V):∀l:List (α×V),(∀e∈l,e.1≠x)->lK c (bZ x) v (bX bZ l)=bX bZ (l++[(x,v)])
 |[],_=>rfl
 |e::l,a=>by have b:decide (x=e.1)=ad:=decide_eq_false λq=>a e (by simp) q.symm;show(bif (gF c (bZ x) (bZ e.1)).getD ad then _ else(bZ e.1,e.2)::lK c (bZ x) v (bX bZ l))=_;rw[Jo h x v l λq al=>a q (by simp[al]),h.eq,b];rfl
theorem t0(h:is c bZ)(z:V)(ok:Bool)(x:α)(l:List (α×V)):k5 c z ok (bZ x) (bX bZ l)=I (match eX x l with
 |some v=>(match ok with|true=>.tuple [v,.bool U]|false=>v)
 |none=>(match ok with|true=>.tuple [z,.bool ad]|false=>z)):=by
 simp only[k5,lJ,kv,h.key,bi,hg,tV h,Jj h,wW];cases eX x l<;>rfl
def Mk(h:is c bZ){x:α}{v:V}{l:List (α×V)}(b:v.gU=U)(a:∀e∈l,e.1≠x):li c (bZ x) v (bX bZ l)=I (bX bZ (l++[(x,v)])):=by simp only[li,h.key,tV h,b,cR,bi,Jo h x v l a]
theorem rr(n:Nat):∀l:List (α×V),(∀e∈l,e.2.under n=U)->kE n (bX bZ l)=U
 |[],_=>rfl
 |e::l,h=>by show(V.under n e.2&&kE n (bX bZ l))=U;rw[rr n l λq al=>h q (by simp[al]),h e (by simp)];rfl
def hd(l:List α):List (α×V):=l.map λx=>(x,.bool U)
def acp(l:List α)(x:α):hd l++[(x,.bool U)]=hd (l++[x]):=by simp[hd]
theorem IH(x:α):∀l:List α,eX x (hd l)=if x∈l then I (.bool U) else ag
 |[]=>rfl
 |y::l=>by
  have a:=IH x l;unfold eX hd at a⊢;rw[gg,List.find?_cons];by_cases h:x=y
  . subst h;simp
  . have b:decide (x=y)=ad:=decide_eq_false h;simp only[fI,h,false_or];exact a
def Y1(h:is c bZ)(x:α)(l:List α):k5 c (.bool ad) ad (bZ x) (bX bZ (hd l))=I (.bool (decide (x∈l))):=by rw[t0 h,IH];by_cases a:x∈l<;>simp[a]
def sr(h:is c bZ){x:α}{l:List α}(a:x∉l):k5 c (.bool ad) ad (bZ x) (bX bZ (hd l))=I (.bool ad):=by rw[Y1 h,decide_eq_false a]
def s1(h:is c bZ){x:α}{l:List α}(b:x∉l):li c (bZ x) (.bool U) (bX bZ (hd l))=I (bX bZ (hd (l++[x]))):=by rw[Mk h rfl λe a=>?_,acp];obtain⟨y,d,rfl⟩:=gY.1 a;exactλq=>b (q▸d)
theorem ru(n:Nat)(l:List α):kE n (bX bZ (hd l))=U:=rr n _ λe a=>by obtain⟨y,_,rfl⟩:=gY.1 a;rfl
end
def n_(s:List UInt8):V:=.str s
def x9:is .str n_:=⟨λ_=>rfl,λ_ _=>rfl⟩
def ht(n:Int):V:=aa n
def qO:is .int ht:=⟨λ_=>rfl,λx y=>by simp[ht,gF,gn]⟩
def vt{α β:Type}{l:List α}{f:α->β}{i:Nat}{x:α}(h:∀(k:Nat)(t:α),k<i->l[k]? =I t->f t≠f x):f x∉(l.take i).map f:=λd=>by obtain⟨t,e,a⟩:=gY.1 d;obtain⟨k,b,c⟩:=t5 e;exact h k t b c a
def ur{α β:Type}{l:List α}{f:α->β}{i:Nat}{x:α}(h:l[i]? =I x):(l.take i).map f++[f x]=(l.take (i+1)).map f:=by rw[gM,h];simp
def ac8(l:List Stop)(c:cg)(m:∀s∈l,s.wf)(ok:wr l):bq aH 77 [.slice (l.map Stop.row) c] (λv=>v=ig (0,0)):=by
 obtain⟨p,ok⟩:=ok;refine bB WF (ah ?_);refine aW (λh=>?_) (λ_=>?_)
 . omega
 refine ah ?_;refine c6 l (λi a M=>a=[.map 0,.slice (l.map Stop.row) c,aa l.length,aa i]/\M=[.map (bX n_ (hd ((l.take i).map Stop.id)))]) ⟨rfl,rfl⟩ ?_ ?_;rotate_left
 . rintro a M ⟨rfl,rfl⟩;exact i_ @bV @ig.eq_1
 rintro i s a M ae k j ⟨rfl,rfl⟩;obtain⟨f,n,o,g⟩:=ok i s ae;have b:=vt g;have d:k5 .str (.bool ad) ad (.str s.id) (bX n_ (hd ((l.take i).map Stop.id)))=I (.bool ad):=sr x9 b;have e:li .str (.str s.id) (.bool U) (bX n_ (hd ((l.take i).map Stop.id)))=I (bX n_ (hd ((l.take (i+1)).map Stop.id))):=by rw[show V.str s.id=n_ s.id from rfl,s1 x9 b,ur ae]
 refine b6 j ae @Stop.row.eq_1 ?_;refine bG (xk s.id (m s (bI ae)).1) (bN f d ?_);refine aW (λh=>?_) (λ_=>?_)
 . omega
 refine ah ?_;refine aW (λh=>?_) (λ_=>?_)
 . omega
 refine ah ?_;refine aW (λh=>?_) (λ_=>?_)
 . omega
 refine ah ?_;refine aW (λh=>?_) (λ_=>?_)
 . omega
 refine aL e ?_;exact cN k (by simp[gu,cC,aE,cd,V.under,b4,au.under,ru]) ⟨rfl,rfl⟩
def abZ(m:Int):bq aH 146 [aa m] (λv=>v=.bool (decide (0<=m/\m<8))):=by
 refine bB V6 (ah ?_);apply aW<;>intro h
 . refine ah ?_;exact decide_eq_decide.2 J
 . refine ah ?_;symm;exact h8
def abY(l:List ec)(c:cg)(n:∀s∈l,s.wf)(ok:uK l):bq aH 78 [.slice (l.map ec.row) c] (λv=>v=ig (0,0)):=by
 obtain⟨p,ok⟩:=ok;refine bB V4 (ah ?_);refine aW (λh=>?_) (λ_=>?_)
 . omega
 refine ah ?_;refine c6 l (λi a M=>a=[.map 0,.slice (l.map ec.row) c,aa l.length,aa i]/\M=[.map (bX n_ (hd ((l.take i).map ec.id)))]) ⟨rfl,rfl⟩ ?_ ?_;rotate_left
 . rintro a M ⟨rfl,rfl⟩;exact i_ @bV @ig.eq_1
 rintro i s a M ae m k ⟨rfl,rfl⟩;obtain⟨f,o,g⟩:=ok i s ae;have b:=vt g;have d:k5 .str (.bool ad) ad (.str s.id) (bX n_ (hd ((l.take i).map ec.id)))=I (.bool ad):=sr x9 b;have e:li .str (.str s.id) (.bool U) (bX n_ (hd ((l.take i).map ec.id)))=I (bX n_ (hd ((l.take (i+1)).map ec.id))):=by rw[show V.str s.id=n_ s.id from rfl,s1 x9 b,ur ae]
 have j:decide (0<=s.fA/\s.fA<8)=U:=be ⟨J,J⟩;refine b6 k ae @ec.row.eq_1 ?_;refine bG (xk s.id (n s (bI ae)).1) (bN f d ?_);refine bG (abZ s.fA) (bN j e ?_);exact cN m (by simp[gu,cC,aE,cd,V.under,b4,au.under,ru]) ⟨rfl,rfl⟩
def R4(l:List aZ)(c:cg)(i:Nat)(d low high:Int)(o:l.length<=32)(n:i<l.length)(ok:wa l d low high i):bq aH 175 [.slice (l.map aZ.row) c,aa i,aa d,aa low,aa high] (λv=>v=v0):=by
 obtain⟨s,ae⟩:∃s,l[i]? =I s:=⟨l[i],by simp⟩;obtain⟨j,k,e⟩:=ok s ae;refine bB UD (bN ae @aZ.row.eq_1 ?_);refine aW (λh=>?_) (λ_=>?_)
 . omega
 refine ah ?_;refine aW (λh=>?_) (λ_=>?_)
 . omega
 refine ah ?_;apply cF<;>intro q
 . refine ah ?_;refine aW (λh=>?_) (λ_=>?_)
   . omega
   refine ah ?_;refine aW (λh=>?_) (λ_=>?_)
   . omega
   refine ah ?_;refine aW (λh=>?_) (λ_=>?_)
   . omega
   refine ah ?_;refine aW (λh=>?_) (λ_=>?_)
   . omega
   exact kF
 have g:0<i:=J;obtain⟨p,a⟩:∃p,l[i -1]? =I p:=⟨l[i -1],by simp⟩;obtain⟨f,m⟩:=e p g a;have r:IntKind.i64.wrap ((i:Int) -1)=(i:Int) -1:=by rw[kY];omega
 have b:((i:Int) -1)=((i -1:Nat):Int):=J;refine b6 b a @aZ.row.eq_1 ?_;refine aW (λh=>?_) (λ_=>?_)
 . exact aJ h f
 refine ah ?_;refine aW (λh=>?_) (λ_=>?_)
 . omega
 refine ah ?_;refine aW (λh=>?_) (λ_=>?_)
 . omega
 refine ah ?_;refine aW (λh=>?_) (λ_=>?_)
 . omega
 refine ah ?_;refine aW (λ_=>?_) (λh=>?_);rotate_left
 . omega
 refine b6 b a @aZ.row.eq_1 ?_;refine aW (λh=>?_) (λ_=>?_)
 . omega
 exact kF
def R2(l:List aZ)(c:cg)(a low high:Int)(ok:rD l a low high):bq aH 147 [.slice (l.map aZ.row) c,aa a,aa low,aa high] (λv=>v=ig (0,0)):=by
 obtain⟨g,e,ok⟩:=ok;refine bB UB (ah ?_);refine aW (λh=>?_) (λ_=>?_)
 . omega
 refine ah ?_;refine aW (λh=>?_) (λ_=>?_)
 . omega
 refine ah ?_;refine c6 l (λi b M=>b=[.slice (l.map aZ.row) c,aa a,aa low,aa high,aa l.length,aa i]/\M=[]) ⟨rfl,rfl⟩ ?_ ?_;rotate_left
 . rintro b M ⟨rfl,rfl⟩;exact i_ @bV @ig.eq_1
 rintro i s b M ae d f ⟨rfl,rfl⟩;refine aL f ?_;refine bG (R4 l c i a low high e d (ok i)) (ah ?_);exact bE d ⟨rfl,rfl⟩
def t8(i n:Int):bq aH 148 [aa i,aa n] (λv=>v=.bool (decide (0<=i/\i<n))):=by
 refine bB V2 (ah ?_);apply aW<;>intro h
 . refine ah ?_;exact decide_eq_decide.2 J
 . refine ah ?_;symm;exact h8
def fm(p i e:Int):List V:=[aa p,aa i,aa e]
def AS(p i e:Int):bq aH 80 [aa p,aa i,aa e] (λv=>v=.agg (fm p i e)):=by exact bB V0 (jy @fm.eq_1)
def ZU(l:List (Int×Int×Int))(c:cg)(o:l.length<=10):bq aH 79 [.slice (l.map λr=>fm r.1 r.2.1 r.2.2) c] (λv=>∃p i e,v=.agg (fm p i e)/\((∀r∈l,r.2.2=0)->p=0/\i=0/\e=0)):=by
 refine bB VI (ah ?_);refine c6 l (λi g M=>g=[.ptr 0 0,.slice (l.map λr=>fm r.1 r.2.1 r.2.2) c,aa l.length,aa i]/\M=[.box (fm 0 0 0)]/\∀(j:Nat)(r:Int×Int×Int),j<i->l[j]? =I r->r.2.2=0) ⟨rfl,rfl,λj r b=>aJ b (c9 _)⟩ ?_ ?_;rotate_left
 . rintro g M ⟨rfl,rfl,H⟩;refine bN @bV @fm.eq_1 ?_;exact⟨0,0,0,rfl,λ_=>⟨rfl,rfl,rfl⟩⟩
 rintro i r g M d n m ⟨rfl,rfl,H⟩;refine b6 m d @fm.eq_1 ?_;apply aW<;>intro h
 . refine ah ?_;refine cN n rfl ⟨rfl,rfl,λj x b f=>?_⟩;rcases hQ.1 b with a|a
   . exact H j x a f
   . subst a;rw[d] at f;cases f;exact h
 . refine ah ?_;exact⟨_,_,_,rfl,λk=>aJ (k r (bI d)) h⟩
def x1(k:List UInt8×Int×Int):V:=.agg [.str k.1,aa k.2.1,aa k.2.2]
def KW:is (.cells [.str,.int,.int]) x1:=⟨λ_=>rfl,λx y=>by obtain⟨a,b,c⟩:=x;obtain⟨d,e,f⟩:=y;simp[x1,gF,fk,gn,Bool.decide_and]⟩
def Sq(n:ak)(m:n.wf)(ok:tp n):bq aH 81 [.agg n.row] (λv=>v=.agg (fm 0 0 0)):=by
 obtain⟨u,ok⟩:=ok;refine bB VG (aL @ak.row.eq_1 ?_);refine aW (λh=>?_) (λ_=>?_)
 . omega
 refine ah ?_;refine c6 n.ar (λi c M=>c=[.ptr 0 0,.ptr 1 0,.map 2,.slice (n.ar.map aV.row) n.jx,aa n.ar.length,aa i]/\M=[.box n.row,.box (fm 0 0 0),.map (bX x1 (hd ((n.ar.take i).map aV.key)))]) ⟨rfl,rfl⟩ ?_ ?_;rotate_left
 . rintro c M ⟨rfl,rfl⟩;exact pj @bV @fm.eq_1 @ak.row.eq_1
 rintro i r c M a l k ⟨rfl,rfl⟩;obtain⟨g,p,q,s,t,e,j⟩:=ok i r a;have o:=m.ar.1 r (bI a);have f:=vt j;have d:=sr KW f;have b:=s1 KW f;rw[ur a] at b;simp only[x1,aV.key] at d b;have w:=e.2.1;refine d0 k a @aV.row.eq_1 @ak.row.eq_1 ?_;refine bG (xk r.id o.2.2.2.1) (aL g ?_);refine aW (λh=>?_) (λ_=>?_)
 . omega
 refine ah ?_;refine aW (λh=>?_) (λ_=>?_)
 . omega
 refine ah ?_;refine aW (λh=>?_) (λ_=>?_)
 . omega
 refine ah ?_;refine aW (λh=>?_) (λ_=>?_)
 . omega
 refine ah ?_;refine aW (λh=>?_) (λ_=>?_)
 . omega
 refine ah ?_;refine aW (λh=>?_) (λ_=>?_)
 . omega
 refine ah ?_;refine bG (R2 r.aO r.tag n.aB.length 0 3155932800 e) (bN @ig.eq_1 d ?_);refine aL b ?_;refine cN l (by simp[gu,cC,aE,cd,V.under,b4,au.under,ru,fm]) ⟨rfl,rfl⟩
def n9(a:List b1):List b1:=a.filter (·.aT)
def k8(a:List b1):List (Int×V):=(n9 a).map λl=>(l.src,.int .i64 l.dst)
def Xw{d:List b1}{x:Int}{v:V}(h:eX x (k8 d)=I v):∃y,v=.int .i64 y/\mX d x y:=by unfold eX at h;obtain⟨e,a,rfl⟩:=cL.1 h;have g:=List.mem_of_find?_eq_some a;have c:=List.find?_some a;simp only[cZ] at c;obtain⟨l,f,rfl⟩:=gY.1 g;have b:=jf.1 f;exact⟨l.dst,rfl,l,b.1,b.2,c.symm,rfl⟩
theorem AA(a:List b1)(x:Int):∃y t,k5 .int (.int .i64 0) U (.int .i64 x) (bX ht (k8 a))=I (.tuple [.int .i64 y,.bool t])/\(t=U->mX a x y)/\(t=U->∃v,eX x (k8 a)=I v):=by
 rw[show V.int .i64 x=ht x from rfl,t0 qO];cases h:eX x (k8 a) with
 |none=>exact⟨0,ad,rfl,(λe=>by cases e),(λe=>by cases e)⟩
 |some v=>obtain⟨y,rfl,ae⟩:=Xw h;exact⟨y,U,rfl,λ_=>ae,λ_=>⟨_,rfl⟩⟩
def ZV{M:Mem}{id:Nat}{ls:List b1}{d:Int->Nat}(x y:Int)(c:M[id]? =I (.map (bX ht (k8 ls))))(p:b4 M.length M=U)(e:ti ls d)(q:¬j_ ls x y):
 bx aH 149 [.map id,.int .i64 x,.int .i64 y] M (λv i=>v=.bool ad/\i=M):=by
 have s:List.take M.length M=M:=f_;refine bB VY ?_;obtain⟨u,t,j,ae,_⟩:=AA ls x;refine bN c j ?_;refine jz (λm g N=>∃(eV:Int)(ok:Bool),g=[.map id,.int .i64 y,.int .i64 eV,.bool ok]/\N=M/\(ok=U->j_ ls x eV/\d eV<m)) (d x+1) ⟨u,t,rfl,rfl,λh=>⟨.single (ae h),by have:=e _ _ (ae h);omega⟩⟩ ?_;rintro m g N ⟨a,ok,rfl,rfl,H⟩;refine ah ?_;apply dt<;>intro l
 . obtain⟨b,o⟩:=H l;obtain⟨w,r,k,f,_⟩:=AA ls a;refine ah ?_;apply aW<;>intro n
   . subst n;exact aJ b q
   refine bN c k ?_;exact sJ (d a) o ⟨w,r,rfl,rfl,λh=>⟨.tail b (f h),e _ _ (f h)⟩⟩
 . exact i_ s p
def xu(k:Int×Int×Int×Int):V:=.agg [.int .i64 k.1,.int .i64 k.2.1,.int .i64 k.2.2.1,.int .i64 k.2.2.2]
def Jb:is (.cells [.int,.int,.int,.int]) xu:=⟨λ_=>rfl,λx y=>by obtain⟨a,b,c,d⟩:=x;obtain⟨e,f,g,h⟩:=y;simp[xu,gF,fk,gn,Bool.decide_and]⟩
def Ln{a:List b1}{i:Nat}{l:b1}(h:a[i]? =I l):n9 (a.take (i+1))=n9 (a.take i)++if l.aT=U then[l] else[]:=by rw[n9,gM,h,List.filter_append];cases ae:l.aT<;>simp[n9,ae]
def Ll{n:ak}{i:Nat}{l:b1}(h:Cr n i l)(ae:l.aT=U){o:b1}(c:o∈n9 (n.bj.take i)):o.src≠l.src/\o.dst≠l.dst:=by have:=jf.1 c;obtain⟨k,a,b⟩:=t5 this.1;exact h.ry ae k o a b this.2
theorem B0(n:Nat)(b:List b1):kE n (bX ht (k8 b))=U:=rr n _ λe a=>by obtain⟨y,_,rfl⟩:=gY.1 a;rfl
def So(n:ak)(D:n.wf)(ok:tk n):bq aH 82 [.agg n.row] (λv=>v=.agg (fm 0 0 0)):=by
 have C:maxLen=9223372036854775807:=by rfl
 obtain⟨aA,ok⟩:=ok;have aB:=D.ar.2;refine bB VC (aL @ak.row.eq_1 ?_);refine aW (λh=>?_) (λ_=>?_)
 . omega
 refine ah ?_;refine c6 n.bj (λi w M=>w=[.ptr 0 0,.ptr 1 0,.map 2,.map 3,.map 4,.slice (n.bj.map b1.row) n.lc,.int .i64 n.bj.length,.int .i64 i]/\
  M=[.box n.row,.box (fm 0 0 0),.map (bX ht (k8 (n.bj.take i))),.map (bX ht (hd ((n9 (n.bj.take i)).map b1.dst))),.map (bX xu (hd ((n.bj.take i).map b1.key)))]) ⟨rfl,rfl⟩ ?_ ?_;rotate_left
 . rintro w M ⟨rfl,rfl⟩;exact pj @bV @fm.eq_1 @ak.row.eq_1
 rintro i l w M g z P ⟨rfl,rfl⟩;have eV:=ok i l g;obtain⟨⟨ao,bP⟩,⟨G,H⟩,Y,N,ai,S,W⟩:=eV;obtain⟨a,s⟩:∃a,n.ar[l.src.toNat]? =I a:=⟨n.ar[l.src.toNat]'J,by simp⟩;obtain⟨b,x⟩:∃b,n.ar[l.dst.toNat]? =I b:=⟨n.ar[l.dst.toNat]'J,by simp⟩;obtain⟨⟨c1,c2⟩,⟨c3,F⟩,ab,R⟩:=N a b s x;have ay:=(D.ar.1 a (bI s)).2.2.2.2.2.2;obtain⟨c,y⟩:∃c,a.aO[l.fg.toNat]? =I c:=⟨a.aO[l.fg.toNat]'J,by simp⟩;obtain⟨e,p⟩:∃e,b.aO[l.ea.toNat]? =I e:=⟨b.aO[l.ea.toNat]'J,by simp⟩;have O:=ab c e y p;have ap:decide (0<=l.src/\l.src<(n.ar.length:Int))=U:=be ⟨ao,bP⟩;have dD:decide (0<=l.dst/\l.dst<(n.ar.length:Int))=U:=be ⟨G,H⟩;have aq:decide (0<=l.fg/\l.fg<(a.aO.length:Int))=U:=be ⟨c1,c2⟩;have av:decide (0<=l.ea/\l.ea<(b.aO.length:Int))=U:=be ⟨c3,F⟩;obtain⟨u,t,L,ae,az⟩:=AA (n.bj.take i) l.src;have B:=vt W;have aD:=sr Jb B;have ba:=s1 Jb B;rw[ur g] at ba;simp only[xu,b1.key] at aD ba;refine d0 P g @b1.row.eq_1 @ak.row.eq_1 ?_;refine bG (t8 _ _) (aL ap ?_);refine bG (t8 _ _) (aL dD ?_);refine aW (λh=>aJ h Y) (λ_=>?_);refine b6 s x @aV.row.eq_1 ?_;refine bG (t8 _ _) (aL aq ?_);refine bG (t8 _ _) (aL av ?_);refine d0 y p @aZ.row.eq_1 L ?_;refine aW (λ_=>?_) (λh=>aJ O h);refine ah ?_;apply cU<;>intro f
 . have j:=Ln g;rw[f,ax (by simp),ez] at j;refine aL aD ?_;refine aL ba ?_;refine dt (λh=>?_) (λ_=>?_)
   . rw[f] at h;cases h
   refine ah ?_;refine cN z (by simp[gu,cC,aE,cd,V.under,b4,au.under,ru,B0,fm]) ⟨rfl,?_⟩;have r:k8 (n.bj.take (i+1))=k8 (n.bj.take i):=by rw[k8,j];rfl
   rw[r,j];rfl
 obtain⟨aC,an⟩:=R f;have af:t=ad:=by
  cases t with
  |false=>rfl
  |true=>obtain⟨o,m,Z,aa,_⟩:=ae rfl;obtain⟨k,T,X⟩:=t5 m;exact aJ aa (ai f k o T X Z).1
 subst af;have A:l.dst∉(n9 (n.bj.take i)).map b1.dst:=λC=>by obtain⟨o,m,p⟩:=gY.1 C;exact(Ll (ok i l g) f m).2 p
 have bA:k5 .int (.bool ad) ad (.int .i64 l.dst) (bX ht (hd ((n9 (n.bj.take i)).map b1.dst)))=I (.bool ad):=sr qO A;have am:li .int (.int .i64 l.dst) (.bool U) (bX ht (hd ((n9 (n.bj.take i)).map b1.dst)))=I (bX ht (hd ((n9 (n.bj.take i)).map b1.dst++[l.dst]))):=s1 qO A;have E:li .int (.int .i64 l.src) (.int .i64 l.dst) (bX ht (k8 (n.bj.take i)))=I (bX ht (k8 (n.bj.take i)++[(l.src,.int .i64 l.dst)])):=Mk qO rfl λq al=>by obtain⟨o,m,rfl⟩:=gY.1 al;exact(Ll (ok i l g) f m).1
 have j:=Ln g;rw[f,aF rfl] at j;have r:k8 (n.bj.take i)++[(l.src,.int .i64 l.dst)]=k8 (n.bj.take (i+1)):=by simp[k8,j]
 rw[r] at E;obtain⟨K,Q⟩:=w3 n i J λk _=>ok k;have aj:IntKind.i64.wrap (l.fg+1)=l.fg+1:=by rw[kY];omega
 refine aL aj ?_;refine aW (λ_=>?_) (λh=>aJ J h);refine ah ?_;refine aW (λ_=>?_) (λh=>aJ an h);refine aL bA ?_;refine ch (ZV (ls:=n.bj.take i) (d:=K) l.dst l.src rfl (by simp[b4,au.under,ru,B0,cd,V.under,fm]) Q (S f)) ?_;rintro v aw ⟨rfl,rfl⟩;refine aL aD ?_;refine aL ba ?_;refine dt (λ_=>?_) (λh=>?_);rotate_left
 . rw[f] at h;cases h
 refine bN E am ?_;refine cN z (by simp[gu,cC,aE,cd,V.under,b4,au.under,ru,B0,fm]) ⟨rfl,?_⟩;simp[j,ak.row]
structure cB where
 dJ:Int
 len:Int
 dr:Int
abbrev bO:=cB×Int
def cB.cells(x:cB):List V:=[aa x.dJ,aa x.len,aa x.dr]
def gK(e:bO):List V:=[aa e.1.dJ,aa e.1.len,aa e.1.dr,aa e.2]
def sL(a b:cB):Bool:=decide (a.len<b.len)||(decide (a.len=b.len)&&decide (a.dr<b.dr))
def K_(a b:cB):bq aH 236 [.agg a.cells,.agg b.cells] (λv=>v=.bool (sL a b)):=by
 refine bB Wl (aL @cB.cells.eq_1 ?_);apply aW<;>intro h
 . exact pj @sL.eq_1 h @Bool.true_or
 refine ah ?_;apply aW<;>intro c
 . exact rz @sL.eq_1 c @Bool.false_or @bV
 . exact rz @sL.eq_1 h c @Bool.false_or
def rg(x y:bO):Bool:=sL x.1 y.1||(!sL y.1 x.1&&decide (x.2<y.2))
def mn(a ver n:Nat)(p:Int):au:=.box [.cI 236 [],.an a ver 0 n,aa p]
def b2(M:Mem)(h a:Nat)(l j:List bO)(ver:Nat)(p:Int):Mem:=(M.set a (.aj 4 ((l++j).map gK) ver 0)).set h (mn a ver l.length p)
structure jG(M:Mem)(h a:Nat):Prop where
 qK:h<M.length
 uN:a<M.length
 ne:h≠a
 own:b4 M.length M=U
theorem Jx{n:Nat}:∀{M:Mem},b4 n M=U->∀(i:Nat)(B:au),M[i]? =I B->B.under n=U
 |[],_,i,B,h=>by simp at h
 |b::M,a,i,B,h=>by
  simp only[b4,bL] at a;cases i with
  |zero=>simp at h;subst h;exact a.1
  |succ i=>exact Jx a.2 i B (by simpa using h)
def vC{n:Nat}{M:Mem}(h:b4 n M=U){B:au}(b:B.under n=U)(i:Nat):b4 n (M.set i B)=U:=
 AI λC c=>by
  rcases List.mem_or_eq_of_mem_set c with a|rfl
  . obtain⟨q,al⟩:=eb a;exact Jx h q C al
  . exact b
section
variable{M:Mem}{h a ver:Nat}{l j:List bO}{p:Int}
def nU:(b2 M h a l j ver p).length=M.length:=by simp[b2]
def qL(H:jG M h a):(b2 M h a l j ver p)[h]? =I (mn a ver l.length p):=by rw[b2,bY (by rw[cW];exact H.qK)]
def pT(H:jG M h a):(b2 M h a l j ver p)[a]? =I (.aj 4 ((l++j).map gK) ver 0):=by rw[b2,bo H.ne,bY H.uN]
def IN{i:Nat}(b:i≠h)(c:i≠a):(b2 M h a l j ver p)[i]? =M[i]? :=by rw[b2,bo b.symm,bo c.symm]
def pU(H:jG M h a):b4 M.length (b2 M h a l j ver p)=U:=
 vC (vC H.own rfl a) (by have:=H.uN;simp[mn,au.under,cd,V.under];exact this) h
theorem XG(M:Mem)(h a:Nat)(l j:List bO)(ver:Nat)(p:Int)(A B:au)(b:h≠a):((b2 M h a l j ver p).set a A).set h B=(M.set a A).set h B:=by
 refine lp λq=>?_;simp only[b2,List.getElem?_set,cW];split
 . rfl
 . split
   . rfl
   . rfl
theorem IP(f:h≠a){b d:List bO}(e:b.length=l.length):(b2 M h a l j ver p).set a (.aj 4 ((b++d).map gK) ver 0)=b2 M h a b d ver p:=by
 refine lp λq=>?_;simp only[b2,List.getElem?_set,cW,e];by_cases c:a=q
 . subst c;rw[aF rfl,ax f,aF rfl]
 . rw[ax c];split
   . rfl
   . rfl
def IQ(c:h≠a){l' j':List bO}{p':Int}(b:l++j=l'++j'):(b2 M h a l j ver p).set h (mn a ver l'.length p')=b2 M h a l' j' ver p':=by rw[b2,b2,h3,b]
end
theorem b5(i o:Nat):kx (.ptr i o)=I (.ptr i o):=rfl
theorem r7(i o:Nat):cT .eql .ptr (.ptr i o) .db=I (.bool ad):=rfl
def LF{α:Type}(l:List α):l.take l.length=l:=f_
def fW{α:Type}(M L:List α)(i:Nat):(M++L)[M.length+i]? =L[i]? :=by rw[fH J,Nat.add_sub_cancel_left]
def ju{α:Type}(M L:List α)(i:Nat)(x:α):(M++L).set (M.length+i) x=M++L.set i x:=by rw[l1,ax J,Nat.add_sub_cancel_left]
def iJ{α:Type}(M L:List α)(x:α):(M++L).set M.length x=M++L.set 0 x:=by rw[l1,ax J,hA]
def kh{α:Type}{M:List α}{i:Nat}(h:i<M.length)(L:List α)(x:α):(M++L).set i x=M.set i x++L:=by rw[l1,aF h]
theorem t3{α β:Type}{f:α->β}{l j:List α}{i:Nat}{x:α}(h:l[i]? =I x):((l++j).map f)[i]? =I (f x):=by rw[dK,et (az.1 h).1,h];rfl
def y1{M:Mem}{h a ver:Nat}{l j:List bO}{p:Int}(H:jG M h a){i k:Nat}{x y:bO}(u:l[i]? =I x)(w:l[k]? =I y):
 bx aH 242 [.ptr h 0,aa i,aa k] (b2 M h a l j ver p) (λv z=>v=.bool (rg x y)/\z=b2 M h a l j ver p):=by
 have c:=qL (l:=l) (j:=j) (ver:=ver) (p:=p) H;have o:=pT (l:=l) (j:=j) (ver:=ver) (p:=p) H;have b:=pU (l:=l) (j:=j) (ver:=ver) (p:=p) H;have q:=nU (M:=M) (h:=h) (a:=a) (l:=l) (j:=j) (ver:=ver) (p:=p);rw[<-q] at b;clear q;generalize F:b2 M h a l j ver p=N at*;have d:=λL=>a0 c L;have A:=λL=>a0 o L;have r:=t3 (f:=gK) (j:=j) u;have s:=t3 (f:=gK) (j:=j) w;have e:=λL=>fW N L;have B:=λL=>ju N L;have g:=λL=>cE N L;have C:=λL=>iJ N L;have c1:i<l.length:=(az.1 u).1;have c2:k<l.length:=(az.1 w).1;have c3:decide (i<l.length)=U:=be c1;have D:decide (k<l.length)=U:=be c2;have E:decide (l.length<=l.length+j.length)=U:=bR;have G:=LF N;have n:∀L:Mem,(N++L).take N.length=N:=λL=>i9 rfl L;have le:∀L:Mem,decide (N.length<=N.length+L.length)=U:=λL=>bR;simp only[mn,gK] at c d r s;refine bB Vp ?_;simp-implicitDefEqProofs (disch:=omega) only[go_sem,b5,c,o,d,A,r,s,e,B,g,C,c3,D,E,cS];refine d2 (K_ x.1 y.1) ?_;rintro v rfl;refine ah ?_;apply dt<;>intro m
 . refine bN n b ?_;simp[rg,m]
 refine d0 @b5 d e g ?_;refine d2 (K_ y.1 x.1) ?_;rintro v rfl;refine ah ?_;apply dt<;>intro t
 . refine bN n b ?_;simp[rg,m,t]
 refine d0 e g n b ?_;simp[rg,m,t]
def BS{M:Mem}{h a ver:Nat}{l j:List bO}{p:Int}(H:jG M h a){i k:Nat}{x y:bO}(m:l[i]? =I x)(n:l[k]? =I y):
 bx aH 243 [.ptr h 0,aa i,aa k] (b2 M h a l j ver p) (λv s=>v=.tuple []/\s=b2 M h a ((l.set i y).set k x) j ver p):=by
 have b:=qL (l:=l) (j:=j) (ver:=ver) (p:=p) H;have u:=pT (l:=l) (j:=j) (ver:=ver) (p:=p) H;have C:=nU (M:=M) (h:=h) (a:=a) (l:=l) (j:=j) (ver:=ver) (p:=p);have c1:i<l.length:=(az.1 m).1;have c2:k<l.length:=(az.1 n).1;have g:∀(q:Nat)(z:bO)(l:List bO),q<l.length->((l++j).map gK).set q (gK z)=(l.set q z++j).map gK:=λq z l al=>by rw[<-List.map_set,l1,aF al]
 have o:(b2 M h a l j ver p).set a (.aj 4 (((l++j).map gK).set i (gK y)) ver 0)=b2 M h a (l.set i y) j ver p:=by rw[g i y l c1,IP H.ne (cW)]
 have bP:(b2 M h a (l.set i y) j ver p).set a (.aj 4 (((l.set i y++j).map gK).set k (gK x)) ver 0)=b2 M h a ((l.set i y).set k x) j ver p:=by rw[g k x _ (by rw[cW];exact c2),IP H.ne (cW)]
 have t:=qL (l:=l.set i y) (j:=j) (ver:=ver) (p:=p) H;have w:=pT (l:=l.set i y) (j:=j) (ver:=ver) (p:=p) H;have own:=pU (l:=(l.set i y).set k x) (j:=j) (ver:=ver) (p:=p) H;have D:=nU (M:=M) (h:=h) (a:=a) (l:=(l.set i y).set k x) (j:=j) (ver:=ver) (p:=p);have c:=t3 (f:=gK) (j:=j) m;have d:=t3 (f:=gK) (j:=j) n;obtain⟨z,E⟩:∃z,(l.set i y)[k]? =I z:=⟨(l.set i y)[k]'(by rw[cW];exact c2),by simp⟩;have e:=t3 (f:=gK) (j:=j) E;have c3:decide (i<l.length)=U:=be c1;have A:decide (k<l.length)=U:=be c2;have B:decide (l.length<=l.length+j.length)=U:=bR;have r:List.take M.length (b2 M h a ((l.set i y).set k x) j ver p)=b2 M h a ((l.set i y).set k x) j ver p:=eS (by rw[D];exact bk _);simp only[mn,gK,cW] at b c d e o bP t;refine bB Vt ?_;simp-implicitDefEqProofs (disch:=omega) only[go_sem,b5,b,u,c,d,e,c3,A,B,o,bP,w,cW];rw[C];exact⟨by rw[r];exact own,r⟩
def oo(x y:bO):Prop:=x.1.len<y.1.len∨(x.1.len=y.1.len/\(x.1.dr<y.1.dr∨(x.1.dr=y.1.dr/\x.2<y.2)))
def hO(x y:bO):Prop:=¬oo y x
def x4(x y:bO):rg x y=U↔oo x y:=by simp only[rg,sL,oo,ln,bL,hM,Bool.or_eq_false_iff,Bool.and_eq_false_iff,cZ,decide_eq_false_iff_not];omega
def Bt{x y:bO}(h:rg x y=ad):hO y x:=λe=>by rw[<-x4,h] at e;cases e
def wi{x y z:bO}(a:hO x y)(b:hO y z):hO x z:=by unfold hO oo at*;omega
def wj{x y:bO}(h:oo x y):hO x y:=by unfold hO oo at*;omega
def wh(x:bO):hO x x:=by unfold hO oo;omega
def kL(l:List bO):Prop:=∀(i:Nat)(x y:bO),0<i->l[i]? =I x->l[(i -1)/2]? =I y->hO y x
def rK(l:List bO)(i:Nat):Prop:=(∀(j:Nat)(x y:bO),0<j->j≠i->l[j]? =I x->l[(j -1)/2]? =I y->hO y x)/\
 ∀(j:Nat)(x z:bO),0<i->0<j->(j -1)/2=i->l[j]? =I x->l[(i -1)/2]? =I z->hO z x
def qp(l:List bO)(i:Nat):Prop:=(∀(j:Nat)(x y:bO),0<j->(j -1)/2≠i->l[j]? =I x->l[(j -1)/2]? =I y->hO y x)/\
 ∀(j:Nat)(x z:bO),0<i->0<j->(j -1)/2=i->l[j]? =I x->l[(i -1)/2]? =I z->hO z x
def ob{α:Type}(l:List α)(i k:Nat)(x y:α):List α:=(l.set i y).set k x
def sU{α:Type}{l:List α}{i k:Nat}{x y:α}(c:l[i]? =I x)(d:l[k]? =I y)(q:Nat):(ob l i k x y)[q]? =if q=k then I x else if q=i then I y else l[q]? :=by
 have c1:=(az.1 c).1;have c2:=(az.1 d).1;rw[ob,List.getElem?_set,List.getElem?_set,cW];by_cases a:q=k
 . subst a;rw[aF rfl,aF c2,aF rfl]
 . rw[ax (cA a),ax a];by_cases b:q=i
   . subst b;rw[aF rfl,aF c1,aF rfl]
   . rw[ax (cA b),ax b]
def BQ{α:Type}(l:List α)(i k:Nat)(x y:α):(ob l i k x y).length=l.length:=by simp[ob]
def BR{α:Type}{l:List α}{i k:Nat}{x y:α}(a:l[i]? =I x)(b:l[k]? =I y)(z:α):z∈ob l i k x y↔z∈l:=by
 constructor
 . intro h;obtain⟨q,al⟩:=eb h;rw[sU a b] at al;split at al
   . cases al;exact bI a
   . split at al
     . cases al;exact bI b
     . exact bI al
 . intro h;obtain⟨q,al⟩:=eb h;by_cases c:q=i
   . subst c;rw[a] at al;cases al;exact bI (i:=k) (by rw[sU a b,aF rfl])
   . by_cases d:q=k
     . subst d;rw[b] at al;cases al;exact bI (i:=i) (by rw[sU a b,ax (cA c),aF rfl])
     . exact bI (i:=q) (by rw[sU a b,ax d,ax c];exact al)
def adH{l:List bO}{i:Nat}{x y:bO}(h:rK l i)(t:0<i)(s:l[i]? =I x)(e:l[(i -1)/2]? =I y)(n:oo x y):rK (ob l i ((i -1)/2) x y) ((i -1)/2):=by
 obtain⟨f,r⟩:=h;have g:=sU s e;generalize A:(i -1)/2=p at*;have C:p≠i:=J;refine⟨λj u v d k a b=>?_,λj u z B d k a o=>?_⟩
 . rw[g,ax k] at a;rw[g] at b;by_cases c:j=i
   . rw[aF c] at a;cases a;rw[c,A,aF rfl] at b;cases b;exact wj n
   . rw[ax c] at a;by_cases al:(j -1)/2=p
     . rw[aF al] at b;cases b;have:=f j u y d c a (by rw[al];exact e);exact wi (wj n) this
     . rw[ax al] at b;by_cases m:(j -1)/2=i
       . rw[aF m] at b;cases b;exact r j u y t d m a e
       . rw[ax m] at b;exact f j u v d c a b
 . have E:(p -1)/2≠p:=J;have D:(p -1)/2≠i:=J;rw[g,ax E,ax D] at o;have q:=f p y z B C e o;rw[g] at a;have w:j≠p:=J;rw[ax w] at a;by_cases c:j=i
   . rw[aF c] at a;cases a;exact q
   . rw[ax c] at a;exact wi q (f j u y d c a (by rw[k];exact e))
def Mi{l:List bO}{i:Nat}(h:rK l i)(e:∀x y,0<i->l[i]? =I x->l[(i -1)/2]? =I y->hO y x):kL l:=λj x y a c d=>by
 by_cases b:j=i
 . subst b;exact e x y a c d
 . exact h.1 j x y a b c d
def Tc{l:List bO}{i k:Nat}{x y:bO}(h:qp l i)(t:0<k)(o:(k -1)/2=i)(s:l[i]? =I x)(n:l[k]? =I y)(A:∀j z,0<j->(j -1)/2=i->l[j]? =I z->hO y z)(w:oo y x):qp (ob l i k x y) k:=by
 obtain⟨p,r⟩:=h;have g:=sU s n;have B:k≠i:=J;refine⟨λj u v c m a b=>?_,λj u z C c m a q=>?_⟩
 . rw[g] at a b;rw[ax m] at b;by_cases al:(j -1)/2=i
   . rw[aF al] at b;cases b;by_cases d:j=k
     . rw[aF d] at a;cases a;exact wj w
     . rw[ax d,ax J] at a;exact A j u c al a
   . rw[ax al] at b;have d:j≠k:=λe=>al (by rw[e];exact o);rw[ax d] at a;by_cases f:j=i
     . rw[aF f] at a;cases a;rw[f] at b;exact r k y v J t o n b
     . rw[ax f] at a;exact p j u v c al a b
 . rw[o,g,ax (cA B),aF rfl] at q;cases q;rw[g,ax J,ax J] at a;exact p j u y c J a (by rw[m];exact n)
def EE{l:List bO}{i:Nat}(h:qp l i)(e:∀j x y,0<j->(j -1)/2=i->l[i]? =I x->l[j]? =I y->hO x y):kL l:=λj x y c d b=>by
 by_cases a:(j -1)/2=i
 . rw[a] at b;exact e j y x c a b d
 . exact h.1 j x y c a d b
theorem KQ{l:List bO}(h:kL l){x:bO}(b:l[0]? =I x):∀(i:Nat)(y:bO),l[i]? =I y->hO x y
 |0,y,a=>by rw[b] at a;cases a;exact wh _
 |i+1,y,a=>by
  have d:(i+1 -1)/2<l.length:=by have:=(az.1 a).1;omega
  have c:l[(i+1 -1)/2]? =I l[(i+1 -1)/2]:=cG d;exact wi (KQ h b _ _ c) (h (i+1) y _ J a c)
 termination_by i=>i
def acy{M:Mem}{h a ver:Nat}{l j:List bO}{p:Int}(H:jG M h a)(ak:l.length<=1000000000):
 bx aH 245 [.ptr h 0] (b2 M h a l j ver p) (λv Y=>v=.tuple []/\∃b,Y=b2 M h a b j ver p/\b.length=l.length/\(∀z,z∈b↔z∈l)/\(qp l 0->kL b)):=by
 have K:=λb:List bO=>qL (M:=M) (h:=h) (a:=a) (l:=b) (j:=j) (ver:=ver) (p:=p) H;have Z:=λb:List bO=>pT (M:=M) (h:=h) (a:=a) (l:=b) (j:=j) (ver:=ver) (p:=p) H;have own:=λb:List bO=>pU (M:=M) (h:=h) (a:=a) (l:=b) (j:=j) (ver:=ver) (p:=p) H;have t:=λb:List bO=>nU (M:=M) (h:=h) (a:=a) (l:=b) (j:=j) (ver:=ver) (p:=p);have V:=λb:List bO=>i9 (t b) [];simp only[ez] at V;simp only[mn] at K;refine bB Vr (aL t ?_);refine jz (λm W N=>∃(i:Nat)(b:List bO),m=l.length -i/\W=[.ptr h 0,aa i]/\N=b2 M h a b j ver p/\b.length=l.length/\(∀z,z∈b↔z∈l)/\i<=l.length/\(qp l 0->qp b i)) l.length
  ⟨0,l,rfl,rfl,rfl,rfl,λ_=>Iff.rfl,c_ _,id⟩ ?_;rintro m W N ⟨i,b,rfl,rfl,rfl,B,G,am,F⟩;have ab:(2*(i:Int)+1)=((2*i+1:Nat):Int):=J;have D:=K b;have L:=Z b;have O:=own b;have P:=V b;rw[B] at D;refine d0 @b5 D L ab ?_;apply aW<;>intro ai
 . refine b6 t O P ?_;refine⟨b,rfl,B,G,λr=>EE (F r) λq x y al w _ ae=>?_⟩;have:=(az.1 ae).1;omega
 have S:2*i+1<b.length:=J;obtain⟨x,A⟩:∃x,b[i]? =I x:=⟨b[i]'J,by simp⟩;obtain⟨X,o⟩:∃y,b[2*i+1]? =I y:=⟨b[2*i+1],by simp⟩;have E:(((2*i+1:Nat):Int)+1)=((2*i+2:Nat):Int):=J;refine d0 @b5 D L E ?_;apply cF<;>intro aj;have f:∀q z,0<q->(q -1)/2=i->b[q]? =I z->hO X z:=λq z al w c=>by have:=(az.1 c).1;have e:q=2*i+1:=J;subst e;rw[o] at c;cases c;exact wh _
 have n:(2*i+1 -1)/2=i:=J;have g:0<2*i+1:=J;have d:=o;have s:=S;generalize 2*i+1=k at f n g d s⊢;refine ah ?_;rotate_left;obtain⟨af,C⟩:∃y,b[2*i+2]? =I y:=⟨b[2*i+2]'J,by simp⟩;refine aL E ?_;refine ch (y1 H C o) ?_;rintro v _ ⟨rfl,rfl⟩;refine ah ?_;apply dt<;>intro Q;have f:∀q z,0<q->(q -1)/2=i->b[q]? =I z->hO af z:=λq z al w c=>by
  have e:q=2*i+1∨q=2*i+2:=J;rcases e with rfl|rfl
  . rw[o] at c;cases c;exact wj ((x4 _ _).1 Q)
  . rw[C] at c;cases c;exact wh _
 have n:(2*i+2 -1)/2=i:=J;have g:0<2*i+2:=J;have s:2*i+2<b.length:=J;refine aL E ?_;have d:=C;generalize 2*i+2=k at f n g d s⊢;rotate_left;have f:∀q z,0<q->(q -1)/2=i->b[q]? =I z->hO X z:=λq z al w c=>by
  have e:q=2*i+1∨q=2*i+2:=J;rcases e with rfl|rfl
  . rw[o] at c;cases c;exact wh _
  . rw[C] at c;cases c;exact Bt Q
 have n:(2*i+1 -1)/2=i:=J;have g:0<2*i+1:=J;refine ah ?_;have d:=o;have s:=S;generalize 2*i+1=k at f n g d s⊢;rotate_left;all_goals
  refine ch (y1 H d A) ?_;rintro v _ ⟨rfl,rfl⟩;refine ah ?_;apply cU<;>intro R
  . refine b6 t O P ?_;refine⟨b,rfl,B,G,λr=>EE (F r) λq u z al w T c=>?_⟩;rw[A] at T;cases T;exact wi (Bt R) (f q z al w c)
  refine ah ?_;refine ch (BS H A d) ?_;rintro v _ ⟨rfl,rfl⟩;refine aL t ?_;refine sJ (l.length -k) J ⟨k,ob b i k x _,rfl,rfl,rfl,by rw[BQ];exact B,λz=>(BR A d z).trans (G z),J,λr=>Tc (F r) g n A d f ((x4 _ _).1 R)⟩
mutual
theorem sY{n m:Nat}(h:n<=m):∀v:V,v.under n=U->v.under m=U
 |.ptr _ _,hs=>by simp only[V.under,cZ] at hs⊢;omega
 |.df _ _ _ _,hs=>by simp only[V.under,cZ] at hs⊢;omega
 |.an _ _ _ _,hs=>by simp only[V.under,cZ] at hs⊢;omega
 |.map _,hs=>by simp only[V.under,cZ] at hs⊢;omega
 |.fn _ caps,hs=>by simp only[V.under] at hs⊢;exact rt h caps hs
 |.agg cells,hs=>by simp only[V.under] at hs⊢;exact rt h cells hs
 |.tuple vs,hs=>by simp only[V.under] at hs⊢;exact rt h vs hs
 |.undef,_=>rfl
 |.bool _,_=>rfl
 |.int _ _,_=>rfl
 |.str _,_=>rfl
 |.db,_=>rfl
 |.ff,_=>rfl
 |.hY,_=>rfl
 |.slice _ _,_=>rfl
 |.eD _,_=>rfl
 |.cq _,_=>rfl
 |.cI _ _,_=>rfl
theorem rt{n m:Nat}(h:n<=m):∀vs:List V,cd n vs=U->cd m vs=U
 |[],_=>rfl
 |v::vs,hs=>by simp only[cd,bL] at hs⊢;exact⟨sY h v hs.1,rt h vs hs.2⟩
end
theorem Md{n m:Nat}(h:n<=m):∀a:List (V×V),kE n a=U->kE m a=U
 |[],_=>rfl
 |(k,v)::a,b=>by simp only[kE,bL] at b⊢;exact⟨sY h v b.1,Md h a b.2⟩
theorem n1{n m:Nat}(h:n<=m):∀M:Mem,b4 n M=U->b4 m M=U
 |[],_=>rfl
 |B::M,a=>by
  simp only[b4,bL] at a⊢;refine⟨?_,n1 h M a.2⟩;cases B with
  |box cells=>exact rt h cells a.1
  |aj _ _ _ _=>rfl
  |map b=>exact Md h b a.1
  |b7 cells _=>exact rt h cells a.1
  |iter mid _ _=>simp only[au.under,cZ] at a⊢;omega
  |dead=>rfl
theorem n0(n:Nat):∀M L:Mem,b4 n (M++L)=(b4 n M&&b4 n L)
 |[],L=>by simp[b4]
 |B::M,L=>by simp[b4,n0 n M L,Bool.and_assoc]
def jG.a1{M:Mem}{h a:Nat}(H:jG M h a){L:Mem}(b:b4 (M.length+L.length) L=U):jG (M++L) h a:=
 ⟨by rw[b0];have:=H.qK;omega,by rw[b0];have:=H.uN;omega,H.ne,by rw[n0,b0,n1 (Nat.le_add_right _ _) M H.own,b];rfl⟩
def m4{M:Mem}{h a ver:Nat}{l j:List bO}{p:Int}(H:jG M h a)(L:Mem):b2 M h a l j ver p++L=b2 (M++L) h a l j ver p:=by rw[b2,b2,kh H.uN,kh (by rw[cW];exact H.qK)]
def Nt{M:Mem}{h a ver:Nat}{l j:List bO}{p:Int}(H:jG M h a):
 bx aH 247 [.ptr h 0] (b2 M h a l j ver p) (λv e=>v=aa l.length/\e=b2 M h a l j ver p):=by
 have b:=qL (l:=l) (j:=j) (ver:=ver) (p:=p) H;have f:=pT (l:=l) (j:=j) (ver:=ver) (p:=p) H;have own:=pU (l:=l) (j:=j) (ver:=ver) (p:=p) H;have c:=nU (M:=M) (h:=h) (a:=a) (l:=l) (j:=j) (ver:=ver) (p:=p);have d:=i9 c [];simp only[ez] at d;simp only[mn] at b;refine bB Vj ?_;simp-implicitDefEqProofs (disch:=omega) only[go_sem,b5,r7,b,f,c,own,d]
def mw(l:List bO):V:=match l with|[]=>.tuple [.agg [v0,v0,v0],.bool ad]|x::_=>.tuple [.agg x.1.cells,.bool U]
def Cy{M:Mem}{h a ver:Nat}{l j:List bO}{p:Int}(H:jG M h a):
 bx aH 244 [.ptr h 0] (b2 M h a l j ver p) (λv c=>v=mw l/\c=b2 M h a l j ver p):=by
 have own:=pU (l:=l) (j:=j) (ver:=ver) (p:=p) H;have b:=nU (M:=M) (h:=h) (a:=a) (l:=l) (j:=j) (ver:=ver) (p:=p);have o:=λL=>i9 b L;have z:∀L:Mem,b4 (M.length+L.length) L=U->bx aH 247 [.ptr h 0] (b2 M h a l j ver p++L) (λv c=>v=aa l.length/\c=b2 M h a l j ver p++L):=λL y=>by rw[m4 H];exact Nt (H.a1 y)
 have q:=qL (l:=l) (j:=j) (ver:=ver) (p:=p) H;have r:=pT (l:=l) (j:=j) (ver:=ver) (p:=p) H;have d:=λL=>a0 q L;have s:=λL=>a0 r L;have m:=λL=>fW (b2 M h a l j ver p) L;have u:=λL=>ju (b2 M h a l j ver p) L;have e:=λL=>cE (b2 M h a l j ver p) L;have k:=λL=>iJ (b2 M h a l j ver p) L;simp only[b] at m u e k;simp only[mn] at d;have n:decide (M.length<=M.length+2)=U:=bR;refine bB Vl (bN b @cS.{0} ?_);refine ch (z _ (by simp[b4,au.under,cd,V.under])) ?_;rintro v _ ⟨rfl,rfl⟩;refine ah ?_;apply aW<;>intro g
 . have A:l=[]:=lY.1 J;subst A;simp-implicitDefEqProofs (disch:=omega) only[go_sem,b,m,e,k,o,own,mw,n]
 . cases l with
   |nil=>exact aJ rfl g
   |cons x l=>have t:=t3 (f:=gK) (j:=j) (l:=x::l) (i:=0) rfl;have c3:decide (0<(x::l).length)=U:=rfl;have w:decide ((x::l).length<=(x::l).length+j.length)=U:=bR;simp only[gK] at t;simp only[cc] at c3 w d;simp-implicitDefEqProofs (disch:=omega) only[go_sem,b5,b,d,s,e,k,o,own,mw,n,c3,cB.cells,gK]
def Kk{N:Mem}{a ver n k c:Nat}{b:List (List V)}{e:Nat}(f:N[a]? =I (.aj c b ver e))(h:n<=b.length)(g:k<=n):
 eQ c (.an a ver 0 n) ag (I (aa (k:Int))) ag N=I (.an a ver 0 k):=by
 have d:decide (0<=(k:Int))=U:=bR;simp only[eQ,f,gE,d,bi,dU,beq_self_eq_true,dm,be h,c_,decide_true,be g,bk,cR,Nat.sub_zero]
structure wl(l:List bO)(x:bO)(l':List bO):Prop where
 len:l'.length+1=l.length
 mem:∀z,z∈l->z=x∨z∈l'
 sub:∀z,z∈l'->z∈l
 min:∀z,z∈l->hO x z
 pV:kL l'
def O_{M:Mem}{h a ver:Nat}{r j:List bO}{x:bO}{p:Int}(H:jG M h a)(X:(x::r).length<=1000000000)(K:kL (x::r)):
 bx aH 238 [.ptr h 0] (b2 M h a (x::r) j ver p) (λv d=>v=mw (x::r)/\∃c am,d=b2 M h a c am ver p/\wl (x::r) x c):=by
 have g:=λ(l j:List bO)(M:Mem)=>nU (M:=M) (h:=h) (a:=a) (l:=l) (j:=j) (ver:=ver) (p:=p);have S:∀L:Mem,b4 (M.length+L.length) L=U->bx aH 244 [.ptr h 0] (b2 M h a (x::r) j ver p++L) (λv d=>v=mw (x::r)/\d=b2 M h a (x::r) j ver p++L):=λL k=>by rw[m4 H];exact Cy (H.a1 k)
 obtain⟨y,w⟩:∃y,(x::r)[r.length]? =I y:=⟨(x::r)[r.length]'(by simp),by simp⟩;have i:(x::r)[0]? =I x:=rfl;have F:=sU i w;have ai:=BQ (x::r) 0 r.length x y;have G:=BR i w;generalize ab:ob (x::r) 0 r.length x y=b at*;have af:b[r.length]? =I x:=by rw[F,aF rfl]
 have ae:b.length=r.length+1:=by rw[ai];rfl
 have N:b=b.take r.length++[x]:=by
  calc b=b.take (r.length+1):=(eS J).symm
   _=b.take r.length++[x]:=by rw[gM,af];rfl
 have W:∀L:Mem,b4 (M.length+L.length) L=U->bx aH 243 [.ptr h 0,v0,aa (r.length:Int)] (b2 M h a (x::r) j ver p++L) (λv d=>v=.tuple []/\d=b2 M h a b j ver p++L):=λL k=>by rw[m4 H,m4 H,<-ab];exact BS (H.a1 k) i w
 have s:(b.take r.length).length=r.length:=by rw[fh];omega
 have T:∀L:Mem,b4 (M.length+L.length) L=U->bx aH 245 [.ptr h 0] (b2 M h a (b.take r.length) (x::j) ver p++L) (λv d=>v=.tuple []/\∃c,d=b2 M h a c (x::j) ver p++L/\c.length=(b.take r.length).length/\(∀z,z∈c↔z∈b.take r.length)/\(qp (b.take r.length) 0->kL c)):=λL k=>by rw[m4 H];refine bx.mono (acy (H.a1 k) (by rw[s];simp only[cc] at X;omega)) ?_;rintro v d ⟨f,c,Q,R⟩;exact⟨f,c,by rw[m4 H];exact Q,R⟩
 have Z:qp (b.take r.length) 0:=by
  have get:∀q,q<r.length->0<q->(b.take r.length)[q]? =(x::r)[q]? :=λq al i=>by rw[fT al,F,ax J,ax J]
  refine⟨λq u v al ar t O=>?_,λq u v P=>aJ P J⟩;have ah:q<r.length:=by have:=(az.1 t).1;omega
  rw[get q ah al] at t;rw[get _ J J] at O;exact K q u v al t O
 have A:∀(l j:List bO)(L:Mem),(b2 M h a l j ver p++L)[h]? =I (.box [.cI 236 [],.an a ver 0 l.length,aa p]):=λl j L=>a0 (qL H) L;have B:∀(l j:List bO)(L:Mem),(b2 M h a l j ver p++L)[a]? =I (.aj 4 ((l++j).map gK) ver 0):=λl j L=>a0 (pT H) L;have o:=λ(l j:List bO) L=>fW (b2 M h a l j ver p) L;have C:=λ(l j:List bO) L=>ju (b2 M h a l j ver p) L;have D:=λ(l j:List bO) L=>cE (b2 M h a l j ver p) L;have E:=λ(l j:List bO) L=>iJ (b2 M h a l j ver p) L;simp only[g] at o C D E;have ap:=λ(l j:List bO) L=>i9 (g l j M) L;have own:=λ(l j:List bO)=>pU (l:=l) (j:=j) (ver:=ver) (p:=p) H;have aq:∀L:Mem,decide (M.length<=M.length+L.length)=U:=λL=>bR;have ao:∀L:Mem,eQ 4 (.an a ver 0 (r.length+1)) ag (I (aa (r.length:Int))) ag (b2 M h a b j ver p++L)=I (.an a ver 0 r.length):=λL=>
  Kk (B b j L) (by rw[cz,b0];omega) J;have st:∀L:Mem,(b2 M h a b j ver p++L).set h (.box [.cI 236 [],.an a ver 0 r.length,aa p])=b2 M h a (b.take r.length) (x::j) ver p++L:=λL=>by
  have e:=IQ (M:=M) (h:=h) (a:=a) (ver:=ver) (l:=b) (j:=j) (p:=p) (l':=b.take r.length) (j':=x::j) (p':=p) H.ne (by have:=congrArg (·++j) N;simpa using this);rw[mn,s] at e;rw[kh (by rw[g];exact H.qK),e]
 have ak:(((r.length+1:Nat):Int) -1)=(r.length:Int):=J;have aeU:∀cells:List V,cd 0 cells=U->∀n,cd n cells=U:=λcells Y n=>rt (c_ _) cells Y;refine bB Gg (aL g ?_);refine ch (S _ (by simp[b4,au.under,cd,V.under])) ?_;rintro v _ ⟨rfl,rfl⟩;simp-implicitDefEqProofs (disch:=omega) only[go_sem,g,mw,cB.cells,o,C,cS,b5,A,B,ak];refine ch (W _ (by simp[b4,au.under,cd,V.under])) ?_;rintro v _ ⟨rfl,rfl⟩;refine es @b5 A ae ao st ?_;refine ch (T _ (by simp[b4,au.under,cd,V.under])) ?_;rintro v _ ⟨rfl,c,rfl,aD,ba,bA⟩;refine he g o D E ap own ?_;refine⟨rfl,c,x::j,rfl,by rw[aD,s];rfl,λz m=>?_,λz m=>?_,λz m=>?_,bA Z⟩
 . have f:=(G z).2 m;rw[N,dv] at f;rcases f with f|f
   . exact .inr ((ba z).2 f)
   . exact .inl (dV.1 f)
 . exact(G z).1 (List.mem_of_mem_take ((ba z).1 m))
 . obtain⟨q,al⟩:=eb m;exact KQ K i q z al
def O9{M:Mem}{h a ver:Nat}{j:List bO}{p:Int}(H:jG M h a):
 bx aH 238 [.ptr h 0] (b2 M h a [] j ver p) (λv c=>v=mw []/\c=b2 M h a [] j ver p):=by
 have b:=λ(l j:List bO)(M:Mem)=>nU (M:=M) (h:=h) (a:=a) (l:=l) (j:=j) (ver:=ver) (p:=p);have k:∀L:Mem,b4 (M.length+L.length) L=U->bx aH 244 [.ptr h 0] (b2 M h a [] j ver p++L) (λv c=>v=mw []/\c=b2 M h a [] j ver p++L):=λL i=>by rw[m4 H];exact Cy (H.a1 i)
 have d:=λ(l j:List bO) L=>fW (b2 M h a l j ver p) L;have e:=λ(l j:List bO) L=>ju (b2 M h a l j ver p) L;have f:=λ(l j:List bO) L=>cE (b2 M h a l j ver p) L;have g:=λ(l j:List bO) L=>iJ (b2 M h a l j ver p) L;simp only[b] at d e f g;have m:=λ(l j:List bO) L=>i9 (b l j M) L;have own:=λ(l j:List bO)=>pU (l:=l) (j:=j) (ver:=ver) (p:=p) H;have n:∀L:Mem,decide (M.length<=M.length+L.length)=U:=λL=>bR;refine bB Gg (aL b ?_);refine ch (k _ (by simp[b4,au.under,cd,V.under])) ?_;rintro v _ ⟨rfl,rfl⟩;simp-implicitDefEqProofs (disch:=omega) only[go_sem,b,mw,d,e,f,g,cS,m,own]
def XB(n:Nat)(a:n<=1000000000):cT .quo .none (aa (n:Int)) (aa 2)=I (aa ((n/2:Nat):Int)):=by rw[wH _ _ _ _ J];have:Int.tdiv (n:Int) 2=((n/2:Nat):Int):=rfl;rw[this,kH _ J J]
theorem XF{M:Mem}{h a ver:Nat}{l j:List bO}{p:Int}(H:jG M h a)(e:bO)(L:Mem)(g:l.length<=1000000000):
 cw ad 4 32 (.an a ver 0 l.length) (.slice [[aa e.1.dJ,aa e.1.len,aa e.1.dr,aa e.2]] .full) (b2 M h a l j ver p++L)=
  I (.an a (ver+1) 0 (l.length+1),(b2 M h a l j ver p++L).set a (.aj 4 ((l++[e]).map gK) (ver+1) 0)):=by
 have c:(b2 M h a l j ver p++L)[a]? =I (.aj 4 ((l++j).map gK) ver 0):=a0 (pT H) L;have f:decide ((l.length+1)*64<=2^48)=U:=bR;cases j with
 |nil=>
  have d:(l.length==(l++([]:List bO)).length)=U:=by simp
  have b:(l++([]:List bO)).length=l.length:=by simp
  simp only[cw,dg,dP,cc,eu,dm,beq_self_eq_true,bi,eU,c,cz,b,cR,Nat.reduceMul,f];simp[gK]
 |cons q j=>
  have d:(l.length==(l++q::j).length)=ad:=by simp
  have b:decide (l.length<=(l++q::j).length)=U:=be (by simp);simp only[cw,dg,dP,cc,eu,dm,beq_self_eq_true,bi,eE,eU,c,cz,d,b,cR,Bool.and_false,Bool.false_and,Nat.reduceMul,f,c_,decide_true];simp[gK]
structure yM(l:List bO)(e:bO)(l':List bO):Prop where
 len:l'.length=l.length+1
 mem:∀z,z∈l'↔z∈l∨z=e
 pV:kL l->kL l'
def Ks{M:Mem}{h a ver:Nat}{l0:List bO}{p:Int}{L:Mem}(H:jG M h a)(B:b4 (M.length+L.length) L=U)(S:l0.length<=1000000000)(R:0<l0.length)(Q:Exit->av->Mem->Prop)
 (C:∀c,c.length=l0.length->(∀z,z∈c↔z∈l0)->(rK l0 (l0.length -1)->kL c)->∀(i:Int)(b:Bool),Q .normal [(0,.ptr h 0),(4,aa i),(44,.bool b)] (b2 M h a c [] ver p++L)):
 ck aH DJ Q [(0,.ptr h 0),(4,aa ((l0.length -1:Nat):Int))] (b2 M h a l0 [] ver p++L):=by
 have T:=λ(l j:List bO)(M:Mem)=>nU (M:=M) (h:=h) (a:=a) (l:=l) (j:=j) (ver:=ver) (p:=p);have G:∀(c:List bO)(i k:Nat)(x y:bO),c[i]? =I x->c[k]? =I y->bx aH 242 [.ptr h 0,aa i,aa k] (b2 M h a c [] ver p++L) (λv n=>v=.bool (rg x y)/\n=b2 M h a c [] ver p++L):=λc i k x y g s=>by rw[m4 H];exact y1 (H.a1 B) g s
 have K:∀(c:List bO)(i k:Nat)(x y:bO),c[i]? =I x->c[k]? =I y->bx aH 243 [.ptr h 0,aa i,aa k] (b2 M h a c [] ver p++L) (λv n=>v=.tuple []/\n=b2 M h a (ob c i k x y) [] ver p++L):=λc i k x y g s=>by rw[m4 H,m4 H];exact BS (H.a1 B) g s
 refine yn (aX 19) (aX 20) ?_;refine jz (λm F N=>∃(i:Nat)(c:List bO),m=i/\F=[.ptr h 0,aa i]/\N=b2 M h a c [] ver p++L/\i<l0.length/\c.length=l0.length/\(∀z,z∈c↔z∈l0)/\(rK l0 (l0.length -1)->rK c i)) (l0.length -1)
  ⟨l0.length -1,l0,rfl,rfl,rfl,J,rfl,λ_=>Iff.rfl,id⟩ ?_;rintro i F N ⟨_,c,rfl,rfl,rfl,g,t,w,r⟩;refine ah ?_;apply cF<;>intro O
 . refine ah ?_;exact C c t w (λd=>Mi (r d) λx y P=>J) _ _
 have o:((i:Int) -1)=((i -1:Nat):Int):=J;have q:=XB (i -1) J;obtain⟨x,e⟩:∃x,c[i]? =I x:=⟨c[i]'J,by simp⟩;obtain⟨y,f⟩:∃y,c[(i -1)/2]? =I y:=⟨c[(i -1)/2]'J,by simp⟩;refine bN o q ?_;refine ch (G c _ _ x y e f) ?_;rintro v _ ⟨rfl,rfl⟩;refine ah ?_;apply cU<;>intro A
 . refine ah ?_;refine C c t w (λd=>Mi (r d) λu v _ D E=>?_) _ _;rw[e] at D;cases D;rw[f] at E;cases E;exact Bt A
 refine bN o q ?_;refine ch (K c _ _ x y e f) ?_;rintro v _ ⟨rfl,rfl⟩;refine bN o q ?_;refine sJ ((i -1)/2) J ⟨(i -1)/2,ob c i ((i -1)/2) x y,rfl,rfl,rfl,J,by rw[BQ];exact t,λz=>(BR e f z).trans (w z),λd=>adH (r d) J e f ((x4 _ _).1 A)⟩
def XP{l:List bO}(e:bO)(h:kL l):rK (l++[e]) ((l++[e]).length -1):=by
 have d:(l++[e]).length -1=l.length:=by simp
 rw[d];refine⟨λq x y al f b c=>?_,λq x z _ al g b i=>?_⟩
 . have a:=(az.1 b).1;rw[b0] at a;have a:q<l.length:=by simp at a;omega
   rw[et a] at b;rw[et J] at c;exact h q x y al b c
 . have a:=(az.1 b).1;rw[b0] at a;simp at a;omega
def Pc{M:Mem}{h a ver:Nat}{l j:List bO}{p:Int}(x:cB)(H:jG M h a)(D:l.length<=100000000)(F:0<=p/\p<=1000000000):
 bx aH 237 [.ptr h 0,.agg x.cells] (b2 M h a l j ver p) (λv m=>v=.tuple []/\∃f,m=b2 M h a f [] (ver+1) (p+1)/\yM l (x,p) f):=by
 have c:=λ(l j:List bO)(ver:Nat)(p:Int)=>nU (M:=M) (h:=h) (a:=a) (l:=l) (j:=j) (ver:=ver) (p:=p);have g:∀(l j:List bO)(ver:Nat)(p:Int)(L:Mem),(b2 M h a l j ver p++L)[h]? =I (.box [.cI 236 [],.an a ver 0 l.length,aa p]):=λl j ver p L=>a0 (qL H) L;have n:∀(l j:List bO)(ver:Nat)(p:Int)(L:Mem),(b2 M h a l j ver p++L)[a]? =I (.aj 4 ((l++j).map gK) ver 0):=λl j ver p L=>a0 (pT H) L;have o:=λL=>fW (b2 M h a l j ver p) L;have q:=λL=>ju (b2 M h a l j ver p) L;have k:=λL=>cE (b2 M h a l j ver p) L;simp only[c] at o q k;have C:=λ(l:List bO) L=>i9 (c l [] (ver+1) (p+1)) L;have own:=λ(l:List bO)=>pU (l:=l) (j:=[]) (ver:=ver+1) (p:=p+1) H;have E:∀L:Mem,decide (M.length<=M.length+L.length)=U:=λL=>bR;have u:=λL=>XF (j:=j) (ver:=ver) (p:=p) H (x,p) L (show l.length<=1000000000 by omega);have w:∀(L:Mem)(A:au),((b2 M h a l j ver p++L).set a A)[h]? =I (.box [.cI 236 [],.an a ver 0 l.length,aa p]):=λL A=>by rw[bo H.ne.symm,g]
 have d:(l++[(x,p)]).length=l.length+1:=by simp
 have y:∀L:Mem,((b2 M h a l j ver p++L).set a (.aj 4 ((l++[(x,p)]).map gK) (ver+1) 0)).set h (.box [.cI 236 [],.an a (ver+1) 0 (l.length+1),aa p])=b2 M h a (l++[(x,p)]) [] (ver+1) p++L:=λL=>by
  have e:=XG M h a l j ver p (.aj 4 ((l++[(x,p)]).map gK) (ver+1) 0) (mn a (ver+1) (l.length+1) p) H.ne;rw[kh (by rw[c];exact H.uN),kh (by rw[cW,c];exact H.qK)];have s:b2 M h a (l++[(x,p)]) [] (ver+1) p=(M.set a (.aj 4 ((l++[(x,p)]).map gK) (ver+1) 0)).set h (mn a (ver+1) (l.length+1) p):=by rw[b2,ez,d]
  rw[s];exact congrArg (·++L) e
 have B:∀L:Mem,(b2 M h a (l++[(x,p)]) [] (ver+1) p++L).set h (.box [.cI 236 [],.an a (ver+1) 0 (l.length+1),aa (p+1)])=b2 M h a (l++[(x,p)]) [] (ver+1) (p+1)++L:=λL=>by have e:=IQ (M:=M) (h:=h) (a:=a) (ver:=ver+1) (l:=l++[(x,p)]) (j:=[]) (p:=p) (l':=l++[(x,p)]) (j':=[]) (p':=p+1) H.ne rfl;rw[mn,d] at e;rw[kh (by rw[c];exact H.qK),e]
 have r:(((l.length+1:Nat):Int) -1)=(((l++[(x,p)]).length -1:Nat):Int):=by rw[d];omega
 refine bB Gh ?_;simp-implicitDefEqProofs (disch:=omega) only[go_sem,c,cB.cells,b5,r7,g,n,k,u,w,y,B,r];rw[show l.length+1 -1=(l++[(x,p)]).length -1 by rw[d]];refine Ks (l0:=l++[(x,p)]) (L:=[.box x.cells]) H (by simp[cB.cells]<;>simp[b4,au.under,cd,V.under]) (by rw[d];omega) (by rw[d];omega) _ λf aD ba bA i b=>?_;refine b6 c C own ?_;exact⟨f,rfl,by rw[aD,d],λz=>by rw[ba];simp,λt=>bA (XP _ t)⟩
def Pb{M:Mem}{h:Nat}(x:cB)(c:M[h]? =I (.box [.cI 236 [],.slice [] .nil,v0]))(k:b4 M.length M=U):
 bx aH 237 [.ptr h 0,.agg x.cells] M (λv d=>v=.tuple []/\d=b2 (M++[.box x.cells,.dead]) h (M.length+1) [(x,0)] [] 0 1):=by
 have a:h<M.length:=(az.1 c).1;have H:jG (M++[.box x.cells,.dead]) h (M.length+1):=⟨by simp;omega,by simp,J,by
  rw[n0,b0,n1 (Nat.le_add_right _ _) M k];simp[b4,au.under,cB.cells,cd,V.under]⟩;have f:=λL=>a0 c L;have g:=λL=>cE M L;have l:cw ad 4 32 (.slice [] .nil) (.slice [[aa x.dJ,aa x.len,aa x.dr,v0]] .full) (M++[.box [aa x.dJ,aa x.len,aa x.dr]])=
  I (.an (M.length+1) 0 0 1,M++[.box [aa x.dJ,aa x.len,aa x.dr],.aj 4 [[aa x.dJ,aa x.len,aa x.dr,v0]] 0 0]):=by
  simp[cw,dg,eU,dP]
 have r:∀(L:Mem)(B:au),(M++L).set h B=M.set h B++L:=λL B=>kh a L B;have n:∀(L:Mem)(B:au),(M.set h B++L)[h]? =I B:=λL B=>a0 (bY a) L;have s:∀(L:Mem)(A B:au),(M.set h A++L).set h B=M.set h B++L:=λL A B=>by rw[kh (by rw[cW];exact a),h3]
 have o:∀(B:au)(L:Mem),(M.set h B++L)[M.length+1]? =L[1]? :=λB L=>by have:=fW (M.set h B) L 1;rwa [cW] at this
 have m:M.set h (.box [.cI 236 [],.an (M.length+1) 0 0 1,aa 1])++[.box [aa x.dJ,aa x.len,aa x.dr],.aj 4 [[aa x.dJ,aa x.len,aa x.dr,v0]] 0 0]=b2 (M++[.box x.cells,.dead]) h (M.length+1) [(x,0)] [] 0 1:=by have e:=ju M [au.box x.cells,.dead] 1 (.aj 4 (([(x,(0:Int))]++[]).map gK) 0 0);rw[b2,e,kh a];rfl
 have u:(((1:Nat):Int) -1)=(([(x,(0:Int))].length -1:Nat):Int):=rfl;have w:((0:Int)+1)=1:=rfl;refine dX Gh ?_;simp only[dN];refine od @cB.cells.eq_1 @b5 @r7 f g l r n s o w ?_;have key:=λQ j=>Ks (l0:=[(x,0)]) (L:=[]) (ver:=0) (p:=1) H rfl (by simp) (by simp) Q j;simp only[ez] at key;rw[u,m];refine key _ λt aD ba bA i b=>?_;have q:t=[(x,0)]:=by obtain⟨z,rfl⟩:=List.length_eq_one_iff.1 aD;have:=(ba z).1 (by simp);rw[dV] at this;rw[this]
 subst q;exact jy @cB.cells.eq_1
def NC{M:Mem}:bx aH 235 [.cI 236 []] M (λv a=>v=.ptr M.length 0/\a=M++[.box [.cI 236 [],.slice [] .nil,v0]]):=by have b:cT .eql .fn (.cI 236 []) .ff=I (.bool ad):=rfl;refine dX Vv ?_;simp only[dN];exact jy b
structure Edge where
 src:Int
 dst:Int
 w:Int
def Edge.row(e:Edge):List V:=[aa e.src,aa e.dst,aa e.w]
def Edge.h_(e:Edge)(N:Nat):Prop:=(0<=e.src/\e.src<N)/\(0<=e.dst/\e.dst<N)/\1<=e.w/\e.w<=14400
def JD{M:Mem}(N i:Int)(f:0<=i/\i<N)(c:M[0]? =I (.box [aa N]))(d:b4 M.length M=U):
 bx aH 234 [aa i,.ptr 0 0] M (λv a=>v=.bool ad/\a=M):=by
 have e:=LF M;refine bB We (ah ?_);refine aW (λh=>?_) (λ_=>?_)
 . omega
 have b:decide (N<=i)=ad:=h8;exact rz c b e d
def acw(l:List Edge)(c:cg)(N:Nat)(p:N<=64)(k:∀e∈l,e.h_ N)(q:l.length<=4096):
 bq aH 222 [aa N,.slice (l.map Edge.row) c,.slice [] .nil] (λv=>v=v0):=by
 refine bB Wf (ah ?_);refine aW (λh=>?_) (λ_=>?_)
 . omega
 refine ah ?_;refine aW (λh=>?_) (λ_=>?_)
 . omega
 refine ah ?_;refine aW (λh=>?_) (λ_=>?_)
 . omega
 refine ah ?_;refine c6 l (λi a M=>a=[.slice [] .nil,.fn 234 [.ptr 0 0],.slice (l.map Edge.row) c,aa l.length,aa i]/\M=[.box [aa N]]) ⟨rfl,rfl⟩ ?_ ?_
 . rintro i e a M b d j ⟨rfl,rfl⟩;obtain⟨f,g,n,o⟩:=k e (bI b);refine b6 j b @Edge.row.eq_1 ?_;refine ch (JD N e.src f rfl (by simp[b4,au.under,cd,V.under])) ?_;rintro v _ ⟨rfl,rfl⟩;refine ah ?_;refine ch (JD N e.dst g rfl (by simp[b4,au.under,cd,V.under])) ?_;rintro v _ ⟨rfl,rfl⟩;refine ah ?_;refine aW (λh=>?_) (λ_=>?_)
   . omega
   refine ah ?_;refine aW (λh=>?_) (λ_=>?_)
   . omega
   refine ah ?_;exact cN d rfl ⟨rfl,rfl⟩
 rintro a M ⟨rfl,rfl⟩;refine aL @bV ?_;refine d4 0 (λi a M=>a=[.fn 234 [.ptr 0 0],.slice [] .nil,v0,aa i]/\M=[.box [aa N]]) ⟨rfl,rfl⟩ ?_ ?_
 . rintro i a M d;omega
 rintro a M ⟨rfl,rfl⟩;have m:decide (((0:Nat):Int)<0)=ad:=rfl;exact jy m
def hw(x:cB):List V:=[aa x.dJ,aa x.len,aa x.dr]
def AD{zero:List V}{sz bytes n:Nat}{M:Mem}(g:n<=1000)(f:bytes<=1000):jq zero sz bytes (aa (n:Int)) (aa (n:Int)) M=I (.an M.length 0 0 n,M++[.aj sz (d_ n zero) 0 0]):=by have e:(n:Int)*(bytes:Int)<=1000*1000:=Int.mul_le_mul J J J J;have a:decide (0<=(n:Int))=U:=bR;have b:decide ((n:Int)<=(n:Int))=U:=bR;have c:decide ((n:Int)*(bytes:Int)<=2^48)=U:=bR;have d:decide ((n:Int)<2^62)=U:=bR;simp only[jq,a,b,c,d,dU,cR,bi]
def z1{α:Type}{l:List α}{f:α->List V}{z:List V}{i:Nat}{x:α}(h:l[i]? =I x):((l.take i).map f++d_ (l.length -i) z).set i (f x)=(l.take (i+1)).map f++d_ (l.length -(i+1)) z:=by have a:=(az.1 h).1;rw[l1,ax (by simp;omega),show l.length -i=(l.length -(i+1))+1 by omega,List.replicate_succ,cz,fh,Nat.min_eq_left J,hA,List.set_cons_zero,gM,h];simp
def z0{α:Type}(l:List α)(f:α->List V)(z:List V){i:Nat}(h:i<=l.length):((l.take i).map f++d_ (l.length -i) z).length=l.length:=by simp;omega
def zZ{α:Type}{l:List α}{f:α->List V}{z:List V}{i:Nat}(h:i<l.length):((l.take i).map f++d_ (l.length -i) z)[i]? =I z:=by rw[fH (by simp;omega),List.getElem?_replicate,aF (by simp;omega)]
def YH(l:List cB)(c:cg)(q:l.length<=64):bq aH 224 [.slice (l.map hw) c] (λv=>v=.slice (l.map λx=>[aa x.len]) .bF):=by
 have o:=λM=>AD (zero:=[v0]) (sz:=1) (bytes:=8) (n:=l.length) (M:=M) J J;refine bB Wj (aL o ?_);refine c6 l (λi b M=>b=[.an 0 0 0 l.length,.slice (l.map hw) c,aa l.length,aa i]/\M=[.aj 1 ((l.take i).map (λx=>[aa x.len])++d_ (l.length -i) [v0]) 0 0]) ⟨rfl,by simp⟩ ?_ ?_
 . rintro i x b M d a k ⟨rfl,rfl⟩;have e:=z0 l (λx:cB=>[V.int .i64 x.len]) [v0] (i:=i) J;have g:=zZ (l:=l) (f:=λx:cB=>[V.int .i64 x.len]) (z:=[v0]) a;have h:=z1 (f:=λx:cB=>[V.int .i64 x.len]) (z:=[v0]) d;have j:decide (i<l.length)=U:=be a;refine mI k d @hw.eq_1 e g h j ?_;exact cN a rfl ⟨rfl,rfl⟩
 rintro b M ⟨rfl,rfl⟩;refine aL @bV ?_;rw[Tk];have p:(l.take l.length).map (λx:cB=>[V.int .i64 x.len])++d_ (l.length -l.length) [V.int .i64 0]=l.map λx=>[aa x.len]:=by simp
 rw[p];have m:cY [.aj 1 (l.map λx=>[V.int .i64 x.len]) 0 0] 0 20 (.an 0 0 0 l.length)=I (.slice (l.map λx=>[aa x.len]) .bF):=by have:=tQ (M:=[.aj 1 (l.map λx:cB=>[V.int .i64 x.len]) 0 0]) (bf:=0) (n:=19) (id:=0) (ver:=0) (start:=0) (len:=l.length) rfl rfl (by simp);rw[hN,eS (by simp)] at this;exact this
 show hC (cY [.aj 1 (l.map λx=>[V.int .i64 x.len]) 0 0] 0 20 (.an 0 0 0 l.length)) _;rw[m];exact⟨by simp[V.under,b4],rfl,rfl,rfl⟩
section
variable{α:Type}[DecidableEq α]{c:en}{bZ:α->V}
def gI(x:α)(v:V):List (α×V)->List (α×V)
 |[]=>[(x,v)]
 |e::l=>if x=e.1 then(x,v)::l else e::gI x v l
theorem Jp(h:is c bZ)(x:α)(v:V):∀l:List (α×V),lK c (bZ x) v (bX bZ l)=bX bZ (gI x v l)
 |[]=>rfl
 |e::l=>by
  show(bif (gF c (bZ x) (bZ e.1)).getD ad then(bZ x,v)::bX bZ l else(bZ e.1,e.2)::lK c (bZ x) v (bX bZ l))=_;rw[Jp h x v l,h.eq,gI];by_cases a:x=e.1
  . rw[aF a,be a];rfl
  . rw[ax a,decide_eq_false a];rfl
def B1(h:is c bZ)(x:α){v:V}(l:List (α×V))(a:v.gU=U):li c (bZ x) v (bX bZ l)=I (bX bZ (gI x v l)):=by simp only[li,h.key,tV h,a,cR,bi,Jp h x v l]
theorem qI(x y:α)(v:V):∀l:List (α×V),eX y (gI x v l)=if y=x then I v else eX y l
 |[]=>by
  by_cases h:y=x
  . subst h;simp[gI,eX]
  . simp[gI,eX,h]
 |e::l=>by
  have c:=qI x y v l;unfold eX at c⊢;rw[gI];by_cases a:x=e.1
  . rw[aF a,List.find?_cons,List.find?_cons];by_cases h:y=x
    . subst h;rw[aF rfl];simp
    . have b:¬y=e.1:=λq=>h (q.trans a.symm);simp only[decide_eq_false h,decide_eq_false b,ax h]
  . rw[ax a,List.find?_cons,List.find?_cons];by_cases h:y=e.1
    . have b:¬y=x:=λq=>a (q.symm.trans h);simp only[be h,ax b]
    . simp only[decide_eq_false h];exact c
theorem yj{n:Nat}(x:α){v:V}(b:v.under n=U):∀l:List (α×V),(∀e∈l,e.2.under n=U)->∀e∈gI x v l,e.2.under n=U
 |[],_,e,a=>by simp[gI] at a;subst a;exact b
 |q::l,h,e,a=>by
  rw[gI] at a;split at a
  . rcases fI.1 a with rfl|a
    . exact b
    . exact h e (by simp[a])
  . rcases fI.1 a with rfl|a
    . exact h _ (by simp)
    . exact yj x b l (λe a=>h e (by simp[a])) e a
end
def fd(k:Int)(l:List Edge):List Edge:=l.filter λe=>decide (e.src=k)
def oK(k:Int)(l:List Edge)(e:Edge):fd k (l++[e])=if e.src=k then fd k l++[e] else fd k l:=by rw[fd,List.filter_append];by_cases h:e.src=k<;>simp[fd,h]
structure mV(M:Mem)(mp:List (Int×V))(l:List Edge):Prop where
 p0:M[0]? =I (.map (bX ht mp))
 sA:∀k,eX k mp=ag->fd k l=[]
 rk:∀k v,eX k mp=I v->∃a ver,v=.an a ver 0 (fd k l).length/\M[a]? =I (.aj 3 ((fd k l).map Edge.row) ver 0)
 inj:∀k xn a ver n ad1 ZN,eX k mp=I (.an a ver 0 n)->eX xn mp=I (.an a ad1 0 ZN)->k=xn
 uu:∀e∈mp,e.2.under M.length=U
 own:b4 M.length M=U
def ZP{M:Mem}{mp:List (Int×V)}{l:List Edge}(h:mV M mp l)(cells:List V)(d:cd 0 cells=U):mV (M++[au.box cells]) mp l:=
 ⟨a0 h.p0 _,h.sA,λk v g=>by
   obtain⟨a,ver,b,c⟩:=h.rk k v g;exact⟨a,ver,b,a0 c _⟩,h.inj,λe f=>sY (by simp) _ (h.uu e f),by
   rw[n0,b0,n1 (Nat.le_add_right _ _) M h.own];simp[b4,au.under,rt (c_ _) cells d]⟩
theorem ZR{M:Mem}{mp:List (Int×V)}{l:List Edge}(h:mV M mp l)(e:Edge)(m:eX e.src mp=ag):
 mV ((M++[au.aj 3 [e.row] 0 0]).set 0 (.map (bX ht (gI e.src (.an M.length 0 0 1) mp)))) (gI e.src (.an M.length 0 0 1) mp) (l++[e]):=by
 have x:0<M.length:=(az.1 h.p0).1;have i:∀{a:Nat}{B:au},a≠0->M[a]? =I B->((M++[au.aj 3 [e.row] 0 0]).set 0 (.map (bX ht (gI e.src (.an M.length 0 0 1) mp))))[a]? =I B:=λi s=>by rw[bo i.symm];exact a0 s _
 have j:∀k a ver n,eX k mp=I (.an a ver 0 n)->a≠0/\a<M.length:=λk a ver n b=>by obtain⟨w,u,g,c⟩:=h.rk k _ b;cases g;refine⟨λe=>?_,(az.1 c).1⟩;rw[e,h.p0] at c;cases c
 have o:∀q∈gI e.src (.an M.length 0 0 1) mp,q.2.under (M.length+1)=U:=yj _ (by simp[V.under]) _ λq al=>sY J _ (h.uu q al);refine⟨?_,λk b=>?_,λk v b=>?_,λk y a ver n u z b d=>?_,λq al=>?_,?_⟩
 . rw[bY (by simp)]
 . rw[qI] at b;split at b
   . cases b
   . rename_i f;rw[oK,ax (λq=>f q.symm)];exact h.sA k b
 . rw[qI] at b;split at b
   . rename_i t;cases b;subst t;refine⟨M.length,0,?_,?_⟩
     . rw[oK,aF rfl,h.sA _ m];rfl
     . rw[bo J,fH J,hA,oK,aF rfl,h.sA _ m];rfl
   . rename_i f;obtain⟨a,ver,g,c⟩:=h.rk k v b;subst g;refine⟨a,ver,?_,?_⟩
     . rw[oK,ax (λq=>f q.symm)]
     . rw[oK,ax (λq=>f q.symm)];exact i (j _ _ _ _ b).1 c
 . rw[qI] at b d;split at b<;>split at d
   . rename_i p r;exact p.trans r.symm
   . cases b;have:=(j _ _ _ _ d).2;omega
   . cases d;have:=(j _ _ _ _ b).2;omega
   . exact h.inj _ _ _ _ _ _ _ b d
 . rw[cW,b0];exact o q al
 . rw[cW,b0];refine vC ?_ (by simp only[au.under];exact rr _ _ o) 0;rw[n0,n1 (Nat.le_add_right _ _) M h.own];rfl
def ZS{M:Mem}{mp:List (Int×V)}{l:List Edge}(h:mV M mp l)(e:Edge){a ver:Nat}(m:eX e.src mp=I (.an a ver 0 (fd e.src l).length)):
 mV ((M.set a (.aj 3 ((fd e.src l++[e]).map Edge.row) (ver+1) 0)).set 0 (.map (bX ht (gI e.src (.an a (ver+1) 0 ((fd e.src l).length+1)) mp)))) (gI e.src (.an a (ver+1) 0 ((fd e.src l).length+1)) mp) (l++[e]):=by
 have u:0<M.length:=(az.1 h.p0).1;have r:∀k a ver n,eX k mp=I (.an a ver 0 n)->a≠0/\a<M.length:=λk a ver n c=>by obtain⟨B,A,o,d⟩:=h.rk k _ c;cases o;refine⟨λe=>?_,(az.1 d).1⟩;rw[e,h.p0] at d;cases d
 obtain⟨w,p⟩:=r _ _ _ _ m;have s:∀q∈gI e.src (.an a (ver+1) 0 ((fd e.src l).length+1)) mp,q.2.under M.length=U:=yj _ (by simp[V.under];exact p) _ h.uu;refine⟨?_,λk c=>?_,λk v c=>?_,λk C b t n A D c f=>?_,λq al=>?_,?_⟩
 . rw[bY (by rw[cW];exact u)]
 . rw[qI] at c;split at c
   . cases c
   . rename_i g;rw[oK,ax (λq=>g q.symm)];exact h.sA k c
 . rw[qI] at c;split at c
   . rename_i z;cases c;subst z;refine⟨a,ver+1,?_,?_⟩
     . rw[oK,aF rfl,b0];rfl
     . rw[bo w.symm,bY p,oK,aF rfl]
   . rename_i g;obtain⟨b,t,o,d⟩:=h.rk k v c;subst o;refine⟨b,t,?_,?_⟩
     . rw[oK,ax (λq=>g q.symm)]
     . have x:=(r _ _ _ _ c).1;have y:b≠a:=λq=>by subst q;exact g (h.inj _ _ _ _ _ _ _ c m)
       rw[oK,ax (λq=>g q.symm),bo x.symm,bo y.symm];exact d
 . rw[qI] at c f;split at c<;>split at f
   . rename_i i j;exact i.trans j.symm
   . rename_i i j;cases c;exact aJ (h.inj _ _ _ _ _ _ _ f m) j
   . rename_i i j;cases f;exact aJ (h.inj _ _ _ _ _ _ _ c m) i
   . exact h.inj _ _ _ _ _ _ _ c f
 . rw[cW,cW];exact s q al
 . rw[cW,cW];exact vC (vC h.own rfl a) (by simp only[au.under];exact rr _ _ s) 0
theorem ZT(l:List Edge)(c:cg)(K:l.length<=4096):
 bx aH 223 [.slice (l.map Edge.row) c,.bool ad] [] (λv D=>v=.map 0/\∃mp,mV D mp l):=by
 refine dX Wn ?_;simp only[dN];refine ah ?_;refine c6 l (λi u M=>∃mp,mV M mp (l.take i)/\u=[.bool ad,.map 0,.slice (l.map Edge.row) c,aa l.length,aa i]) ⟨[],⟨rfl,(λ_ _=>rfl),(λk v h=>by cases h),(λ_ _ _ _ _ _ _ h=>by cases h),(λe f=>by cases f),rfl⟩,rfl⟩ ?_ ?_;rotate_left
 . rintro u M ⟨mp,n,rfl⟩;rw[f_] at n;refine aL @bV ?_;exact⟨mp,n⟩
 rintro i e u M f A z ⟨mp,n,rfl⟩;have C:l.take (i+1)=l.take i++[e]:=by rw[gM,f];rfl
 have g:=ZP n e.row rfl;have x:=λL=>cE M L;have y:=λL=>iJ M L;have J:(fd e.src (l.take i)).length<=4096:=fJ (lZ _ _) (by rw[fh];omega);have d:k5 .int (.slice [] .nil) ad (aa e.src) (bX ht mp)=I (match eX e.src mp with|some v=>v|none=>.slice [] .nil):=t0 qO _ _ _ _;have m:=g.p0;simp only[Edge.row] at m;cases j:eX e.src mp with
 |none=>
  have s:=ZR g e j;have p:cw ad 3 24 (.slice [] .nil) (.slice [[aa e.src,aa e.dst,aa e.w]] .full) (M++[au.box [aa e.src,aa e.dst,aa e.w]])=
   I (.an (M.length+1) 0 0 1,M++[au.box [aa e.src,aa e.dst,aa e.w]]++[au.aj 3 [[aa e.src,aa e.dst,aa e.w]] 0 0]):=by
   simp[cw,dg,eU,dP]
  have t:li .int (aa e.src) (.an (M.length+1) 0 0 1) (bX ht mp)=I (bX ht (gI e.src (.an (M.length+1) 0 0 1) mp)):=B1 qO e.src mp rfl;have r:=a0 m [.aj 3 [[aa e.src,aa e.dst,aa e.w]] 0 0];have o:(M++[au.box [aa e.src,aa e.dst,aa e.w]]++[au.aj 3 [[aa e.src,aa e.dst,aa e.w]] 0 0])[M.length]? =I (.box [aa e.src,aa e.dst,aa e.w]):=by rw[cS,cE];rfl
  rw[j] at d;simp only at d;refine od z f @Edge.row.eq_1 x y m d p r o t ?_;refine bE A ⟨gI e.src (.an (M.length+1) 0 0 1) mp,?_,rfl⟩;rw[C];have:=s;simp only[b0,cc,eu,Edge.row] at this;exact this
 |some v=>
  obtain⟨a,ver,rfl,b⟩:=g.rk _ _ j;have s:=ZS g e j;have H:a<(M++[au.box e.row]).length:=(az.1 b).1;have E:a≠0:=λq=>by rw[q,g.p0] at b;cases b
  have G:decide (((fd e.src (l.take i)).length+1)*48<=2^48)=U:=bR;have p:cw ad 3 24 (.an a ver 0 (fd e.src (l.take i)).length) (.slice [[aa e.src,aa e.dst,aa e.w]] .full) (M++[au.box [aa e.src,aa e.dst,aa e.w]])=
   I (.an a (ver+1) 0 ((fd e.src (l.take i)).length+1),(M++[au.box [aa e.src,aa e.dst,aa e.w]]).set a (.aj 3 ((fd e.src (l.take i)++[e]).map Edge.row) (ver+1) 0)):=by
   simp only[Edge.row] at b;simp only[cw,dg,dP,cc,eu,dm,beq_self_eq_true,bi,eU,b,cz,cR,Nat.reduceMul,G];simp[Edge.row]
  have t:li .int (aa e.src) (.an a (ver+1) 0 ((fd e.src (l.take i)).length+1)) (bX ht mp)=I (bX ht (gI e.src (.an a (ver+1) 0 ((fd e.src (l.take i)).length+1)) mp)):=B1 qO e.src mp rfl;have r:∀B:au,((M++[au.box [aa e.src,aa e.dst,aa e.w]]).set a B)[0]? =I (.map (bX ht mp)):=λB=>by rw[bo E];exact m
  have F:a≠M.length:=λq=>by rw[q,cE] at b;cases b
  have o:∀B:au,((M++[au.box [aa e.src,aa e.dst,aa e.w]]).set a B)[M.length]? =I (.box [aa e.src,aa e.dst,aa e.w]):=λB=>by rw[bo F,cE];rfl
  rw[j] at d;simp only at d;refine od z f @Edge.row.eq_1 x y m d p r o t ?_;refine bE A ⟨gI e.src (.an a (ver+1) 0 ((fd e.src (l.take i)).length+1)) mp,?_,rfl⟩;rw[C];exact s
def Ct(l:List Edge)(N:Nat)(W:Nat->Nat->Int):Prop:=(∀e∈l,W e.src.toNat e.dst.toNat<=e.w)/\∀i j m,i<N->j<N->m<N->W i j<=W i m+W m j
structure lx(l:List Edge)(N s c:Nat)(D:List cB)(q:List bO)(xT:Edge->Prop):Prop where
 len:D.length=N
 ew:c=D.countP λx=>decide (0<=x.dr)
 fin:∀(i:Nat)(x:cB),D[i]? =I x->(x.dr=-1/\x.len=-1)∨(0<=x.dr/\x.dr<=c/\0<=x.len/\x.len<=14400*x.dr)
 nj:∀z∈q,(0<=z.1.dJ/\z.1.dJ<N)/\0<=z.1.dr/\z.1.dr<=c/\0<=z.1.len/\z.1.len<=14400*z.1.dr
 rel:∀e∈l,¬xT e->∀x,D[e.src.toNat]? =I x->0<=x.dr->∃y,D[e.dst.toNat]? =I y/\((0<=y.dr/\y.len<=x.len+e.w)∨(y.dr<0/\∃z∈q,z.1.dJ=e.dst/\z.1.len<=x.len+e.w))
 mono:∀(i:Nat)(x:cB),D[i]? =I x->0<=x.dr->∀z∈q,x.len<=z.1.len
 low:∀W,Ct l N W->(∀(i:Nat)(x:cB),D[i]? =I x->0<=x.dr->i≠s->W s i<=x.len)/\∀z∈q,z.1.dJ.toNat≠s->W s z.1.dJ.toNat<=z.1.len
 src:(∃x,D[s]? =I x/\0<=x.dr/\x.len=0)∨((∀(i:Nat)(x:cB),D[i]? =I x->x.dr=-1)/\∃p,q=[(⟨s,0,0⟩,p)])
def Cp{x y:bO}(h:hO x y):x.1.len<=y.1.len:=by unfold hO oo at h;omega
theorem Ei{α:Type}{p:α->Bool}{a b:α}:∀(l:List α)(i:Nat),l[i]? =I a->p a=ad->p b=U->(l.set i b).countP p=l.countP p+1
 |[],i,h,_,_=>by simp at h
 |x::l,0,h,c,d=>by simp at h;subst h;rw[List.set_cons_zero,List.countP_cons,List.countP_cons,c,d];simp
 |x::l,i+1,h,c,d=>by rw[List.set_cons_succ,List.countP_cons,List.countP_cons,Ei l i (by simpa using h) c d];omega
def S1{l:List Edge}{N s c:Nat}{D:List cB}{q r:List bO}{z:bO}{p:Edge->Prop}(h:lx l N s c D q p)(d:wl q z r){x:cB}(j:D[z.1.dJ.toNat]? =I x)(C:0<=x.dr)(E:∀e∈l,e.h_ N)(F:z∈q):lx l N s c D r p:=by
 refine⟨h.len,h.ew,h.fin,λw a=>h.nj w (d.sub w a),λe v A u g f=>?_,λi u g f w a=>h.mono i u g f w (d.sub w a),λW n=>⟨(h.low W n).1,λw a=>(h.low W n).2 w (d.sub w a)⟩,?_⟩
 . obtain⟨y,o,k⟩:=h.rel e v A u g f;refine⟨y,o,?_⟩;rcases k with k|⟨b,w,a,m,t⟩
   . exact .inl k
   . rcases d.mem w a with rfl|B
     . rw[m,o] at j;cases j;omega
     . exact .inr ⟨b,w,B,m,t⟩
 . rcases h.src with b|⟨b,_⟩
   . exact .inl b
   . have:=b _ _ j;omega
def S3{l:List Edge}{N s c:Nat}{D:List cB}{q E:List bO}{z:bO}(h:lx l N s c D q (λ_=>False))(j:wl q z E){x:cB}(o:D[z.1.dJ.toNat]? =I x)(aa:x.dr<0)(O:∀e∈l,e.h_ N)(m:z∈q):
 lx l N s (c+1) (D.set z.1.dJ.toNat z.1) E (λe=>e.src=z.1.dJ)/\∀(i:Nat)(y:cB),(D.set z.1.dJ.toNat z.1)[i]? =I y->0<=y.dr->y.len<=z.1.len:=by
 obtain⟨⟨ae,af⟩,t,Z,S,T⟩:=h.nj z m;have P:z.1.dJ.toNat<D.length:=(az.1 o).1;have get:∀i,(D.set z.1.dJ.toNat z.1)[i]? =if i=z.1.dJ.toNat then I z.1 else D[i]? :=λi=>by
  rw[List.getElem?_set];by_cases k:i=z.1.dJ.toNat
  . subst k;rw[aF rfl,aF P,aF rfl]
  . rw[ax (cA k),ax k]
 refine⟨⟨by rw[cW];exact h.len,?_,λi u a=>?_,λw b=>?_,λe C ab u a g=>?_,λi u a g w b=>?_,λW v=>⟨λi u a g k=>?_,λw b=>(h.low W v).2 w (j.sub w b)⟩,?_⟩,λi y f L=>?_⟩
 . rw[Ei D _ o h8 (be t),<-h.ew]
 . rw[get] at a;split at a
   . cases a;exact .inr ⟨t,J,S,T⟩
   . rcases h.fin i u a with d|d
     . exact .inl d
     . exact .inr ⟨d.1,J,d.2.2⟩
 . obtain⟨F,G,V,H,K⟩:=h.nj w (j.sub w b);exact⟨F,G,J,H,K⟩
 . obtain⟨⟨ah,bP⟩,⟨X,Y⟩,_⟩:=O e C;rw[get,ax J] at a;obtain⟨y,f,r⟩:=h.rel e C (λq=>q) u a g;by_cases n:e.dst.toNat=z.1.dJ.toNat
   . refine⟨z.1,by rw[get,aF n],.inl ⟨t,?_⟩⟩;rw[n,o] at f;cases f;rcases r with⟨d,_⟩|⟨_,w,b,_,B⟩
     . omega
     . have:=Cp (j.min w b);omega
   . refine⟨y,by rw[get,ax n];exact f,?_⟩;rcases r with r|⟨d,w,b,A,B⟩
     . exact .inl r
     . rcases j.mem w b with rfl|R
       . exact aJ (by rw[A]) n
       . exact .inr ⟨d,w,R,A,B⟩
 . rw[get] at a;split at a
   . cases a;exact Cp (j.min w (j.sub w b))
   . exact h.mono i u a g w (j.sub w b)
 . rw[get] at a;split at a
   . rename_i M;cases a;have:=(h.low W v).2 z m J;rw[<-M] at this;exact this
   . exact(h.low W v).1 i u a g k
 . rcases h.src with⟨u,a,g,Q⟩|⟨d,p,al⟩
   . refine .inl ⟨u,?_,g,Q⟩;rw[get,ax (λq=>by rw[q,o] at a;cases a;omega)];exact a
   . rw[al] at m;have:=dV.1 m;subst this;exact .inl ⟨⟨s,0,0⟩,by rw[get,aF (by simp)],by simp,rfl⟩
 . rw[get] at f;split at f
   . cases f;exact fS _
   . exact h.mono i y f L z m
def cJ(l:List Edge)(t:Nat)(e:Edge):Prop:=∃a,t<=a/\l[a]? =I e
def abC{l:List Edge}{k:Int}{e:Edge}(a:e∈l)(b:e.src=k):cJ (fd k l) 0 e:=by obtain⟨t,c⟩:=eb (jf.2 ⟨a,be b⟩:e∈fd k l);exact⟨t,c_ _,c⟩
def KJ{l:List Edge}{t:Nat}{e f:Edge}(d:l[t]? =I f)(h:¬cJ l (t+1) e):¬cJ l t e∨e=f:=by
 by_cases c:cJ l t e
 . obtain⟨g,b,a⟩:=c;rcases Nat.eq_or_lt_of_le b with rfl|b
   . rw[d] at a;cases a;exact .inr rfl
   . exact aJ ⟨g,b,a⟩ h
 . exact .inl c
def Eu{l:List Edge}{N s c:Nat}{D:List cB}{q:List bO}{b d:Edge->Prop}(h:lx l N s c D q b)(f:∀e∈l,¬d e->¬b e):lx l N s c D q d:=
 ⟨h.len,h.ew,h.fin,h.nj,λe a g=>h.rel e a (f e a g),h.mono,h.low,h.src⟩
def S5{l:List Edge}{N s c t:Nat}{u p:Int}{D:List cB}{q K:List bO}{x y:cB}{e:Edge}(h:lx l N s c D q (cJ (fd u l) t))(E:(fd u l)[t]? =I e)(S:∀e∈l,e.h_ N)(n:D[u.toNat]? =I x)(Q:0<=x.dr)(Y:x.dr+1<=c)
 (T:∀(i:Nat)(y:cB),D[i]? =I y->0<=y.dr->y.len<=x.len)(V:D[e.dst.toNat]? =I y)(R:y.dr<0)(m:yM q (⟨e.dst,x.len+e.w,x.dr+1⟩,p) K):
 lx l N s c D K (cJ (fd u l) (t+1)):=by
 have v:=jf.1 (bI E);have F:e.src=u:=by simpa using v.2
 obtain⟨⟨Z,bP⟩,⟨L,M⟩,aa,dD⟩:=S e v.1;have X:0<=x.len/\x.len<=14400*x.dr:=by
  rcases h.fin _ _ n with g|g
  . omega
  . exact⟨g.2.2.1,g.2.2.2⟩
 refine⟨h.len,h.ew,h.fin,λz d=>?_,λf P A a j o=>?_,λi a j o z d=>?_,λW k=>⟨(h.low W k).1,λz d G=>?_⟩,?_⟩
 . rcases(m.mem z).1 d with d|rfl
   . exact h.nj z d
   . exact⟨⟨L,M⟩,by simp;omega,by simp;omega,by simp;omega,by simp;omega⟩
 . rcases KJ E A with A|rfl
   . obtain⟨b,O,r⟩:=h.rel f P A a j o;refine⟨b,O,?_⟩;rcases r with r|⟨g,z,d,B⟩
     . exact .inl r
     . exact .inr ⟨g,z,(m.mem z).2 (.inl d),B⟩
   . rw[F,n] at j;cases j;exact⟨y,V,.inr ⟨R,_,(m.mem _).2 (.inr rfl),rfl,fS _⟩⟩
 . rcases(m.mem z).1 d with d|rfl
   . exact h.mono i a j o z d
   . have:=T i a j o;simp only;omega
 . rcases(m.mem z).1 d with d|rfl
   . exact(h.low W k).2 z d G
   . simp only at G⊢;have g:=k.1 e v.1;rw[F] at g;by_cases H:u.toNat=s
     . rw[H] at g;omega
     . have B:=(h.low W k).1 _ _ n Q H;have ae:s<N:=by
        rcases h.src with⟨a,j,_⟩|⟨C,_⟩
        . have:=(az.1 j).1;rw[h.len] at this;exact this
        . have:=C _ _ n;omega
       have C:=k.2 s e.dst.toNat u.toNat ae J J;omega
 . rcases h.src with g|⟨g,_⟩
   . exact .inl g
   . have:=g _ _ n;omega
def S6{l:List Edge}{N s c t:Nat}{u:Int}{D:List cB}{q:List bO}{x y:cB}{e:Edge}(h:lx l N s c D q (cJ (fd u l) t))(g:(fd u l)[t]? =I e)(r:∀e∈l,e.h_ N)(w:D[u.toNat]? =I x)
 (v:∀(i:Nat)(y:cB),D[i]? =I y->0<=y.dr->y.len<=x.len)(m:D[e.dst.toNat]? =I y)(k:0<=y.dr):lx l N s c D q (cJ (fd u l) (t+1)):=by
 have j:=jf.1 (bI g);have n:e.src=u:=by simpa using j.2
 obtain⟨_,_,z,dD⟩:=r e j.1;refine⟨h.len,h.ew,h.fin,h.nj,λf o d a b p=>?_,h.mono,h.low,h.src⟩;rcases KJ g d with d|rfl
 . exact h.rel f o d a b p
 . rw[n,w] at b;cases b;have:=v _ y m k;exact⟨y,m,.inl ⟨k,J⟩⟩
structure te(l:List Edge)(N s:Nat)(D:List cB):Prop where
 len:D.length=N
 fin:∀(i:Nat)(x:cB),D[i]? =I x->(x.dr<0/\x.len=-1)∨(0<=x.dr/\0<=x.len/\x.len<=1000000)
 rel:∀e∈l,∀x,D[e.src.toNat]? =I x->0<=x.dr->∃y,D[e.dst.toNat]? =I y/\0<=y.dr/\y.len<=x.len+e.w
 low:∀W,Ct l N W->∀(i:Nat)(x:cB),D[i]? =I x->0<=x.dr->i≠s->W s i<=x.len
 src:∃x,D[s]? =I x/\0<=x.dr/\x.len=0
def S2{l:List Edge}{N s c:Nat}{D:List cB}(n:N<=64)(h:lx l N s c D [] (λ_=>False)):te l N s D:=by
 have o:c<=64:=by have:=List.countP_le_length (p:=λx:cB=>decide (0<=x.dr)) (l:=D);rw[<-h.ew,h.len] at this;omega
 refine⟨h.len,λi x b=>?_,λe g x b j=>?_,λW f=>(h.low W f).1,?_⟩
 . rcases h.fin i x b with a|a
   . exact .inl ⟨J,a.2⟩
   . exact .inr ⟨a.1,a.2.2.1,J⟩
 . obtain⟨y,k,d⟩:=h.rel e g (λq=>q) x b j;rcases d with d|⟨_,z,m,_⟩
   . exact⟨y,k,d⟩
   . cases m
 . rcases h.src with a|⟨_,p,al⟩
   . exact a
   . cases al
def m5(N:Nat):List cB:=(b8 N).map λi:Nat=>⟨(i:Int),-1,-1⟩
def S4(l:List Edge)(N s:Nat)(ae:s<N)(p:Int):lx l N s 0 (m5 N) [(⟨(s:Int),0,0⟩,p)] (λ_=>False):=by
 have get:∀(i:Nat)(x:cB),(m5 N)[i]? =I x->x.dr=-1/\x.len=-1:=λi x a=>by obtain⟨j,_,rfl⟩:=gY.1 (bI a);exact⟨rfl,rfl⟩
 refine⟨by simp[m5],?_,λi x a=>.inl (get i x a),λz b=>?_,λe _ _ x a c=>?_,λi x a c=>?_,λW _=>⟨λi x a c=>?_,λz b d=>?_⟩,.inr ⟨λi x a=>(get i x a).1,p,rfl⟩⟩
 . symm;rw[List.countP_eq_zero];intro x a;obtain⟨j,_,rfl⟩:=gY.1 a;simp
 . have:=dV.1 b;subst this;simp only;exact⟨⟨J,J⟩,J,J,J,J⟩
 . have:=(get _ x a).1;omega
 . have:=(get _ x a).1;omega
 . have:=(get _ x a).1;omega
 . have:=dV.1 b;subst this;simp at d
def jW(M:Mem)(s:Nat)(D:List cB):Mem:=M++[.aj 3 (D.map hw) 0 0,.box [.cI 236 [],.slice [] .nil,v0],.box (cB.cells ⟨(s:Int),0,0⟩),.dead]
def ae(M:Mem)(s:Nat)(D:List cB)(q j:List bO)(ver:Nat)(p:Int):Mem:=b2 (jW M s D) (M.length+1) (M.length+3) q j ver p
section
variable{M:Mem}{s:Nat}{D:List cB}{q j:List bO}{ver:Nat}{p:Int}
def tF(a:b4 M.length M=U):jG (jW M s D) (M.length+1) (M.length+3):=⟨by simp[jW],by simp[jW],J,by rw[jW,n0,b0,n1 (Nat.le_add_right _ _) M a];simp[b4,au.under,cB.cells,cd,V.under]⟩
def jO:(ae M s D q j ver p).length=M.length+4:=by rw[ae,nU,jW];simp
def Aj{i:Nat}{B:au}(h:M[i]? =I B):(ae M s D q j ver p)[i]? =I B:=by have:=(az.1 h).1;rw[ae,IN J J,jW];exact a0 h _
theorem XQ:(ae M s D q j ver p)[M.length]? =I (.aj 3 (D.map hw) 0 0):=by rw[ae,IN J J,jW,cE];rfl
def XR(a:List cB):(ae M s D q j ver p).set M.length (.aj 3 (a.map hw) 0 0)=ae M s a q j ver p:=by
 have e:(jW M s D).set M.length (.aj 3 (a.map hw) 0 0)=jW M s a:=by rw[jW,iJ];rfl
 rw[ae,ae,<-e,b2,b2];refine lp λi=>?_;simp only[List.getElem?_set,cW];by_cases b:M.length=i
 . subst b;have c:M.length<(jW M s D).length:=by simp[jW]
   simp[c]
 . rw[ax b,ax b]
def IV(L:Mem):(ae M s D q j ver p++L).take M.length=M:=by
 refine lp λi=>?_;rw[List.getElem?_take];by_cases a:i<M.length
 . rw[aF a,a0 (Aj (cG a)) L];simp[a]
 . rw[ax a,jd J]
def IT(a:b4 M.length M=U):b4 (M.length+4) (ae M s D q j ver p)=U:=by have:=pU (l:=q) (j:=j) (ver:=ver) (p:=p) (tF (s:=s) (D:=D) a);rwa [show(jW M s D).length=M.length+4 by simp[jW]] at this
def IU(c:b4 M.length M=U){a:List V}(L:Mem)(d:cd (M.length+4) a=U):gu (M.length+4) a (ae M s D q j ver p++L)=U:=by
 have b:M.length+4<=(ae M s D q j ver p++L).length:=by rw[b0,jO];omega
 simp only[gu,d,be b,i9 jO L,IT c,cR]
end
def ZO{M:Mem}{mp:List (Int×V)}{l:List Edge}(h:mV M mp l)(j:Nat)(i:List (List V))(v f:Nat):mV (M++[.aj j i v f]) mp l:=
 ⟨a0 h.p0 _,h.sA,λk v g=>by
   obtain⟨a,ver,b,c⟩:=h.rk k v g;exact⟨a,ver,b,a0 c _⟩,h.inj,λe d=>sY (by simp) _ (h.uu e d),by
   rw[n0,b0,n1 (Nat.le_add_right _ _) M h.own];rfl⟩
theorem ZQ{M:Mem}{mp:List (Int×V)}{l:List Edge}(h:mV M mp l)(u:Int):∃v,k5 .int (.slice [] .nil) ad (aa u) (bX ht mp)=I v/\v.under M.length=U/\
 ∀N:Mem,(∀(i:Nat)(B:au),M[i]? =I B->N[i]? =I B)->eY v N=I (aa (fd u l).length)/\∀(t:Nat)(e:Edge),(fd u l)[t]? =I e->∃r,d8 3 v (aa (t:Int)) N=I r/\dZ 3 U r N=I (.agg e.row):=by
 have d:k5 .int (.slice [] .nil) ad (aa u) (bX ht mp)=I (match eX u mp with|some v=>v|none=>.slice [] .nil):=t0 qO _ _ _ _;cases c:eX u mp with
 |none=>rw[c] at d;refine⟨_,d,rfl,λN _=>?_⟩;rw[h.sA u c];exact⟨rfl,λt e b=>by simp at b⟩
 |some v=>
  rw[c] at d;obtain⟨a,ver,rfl,g⟩:=h.rk u v c;refine⟨_,d,?_,λN j=>?_⟩
  . have:=(az.1 g).1;simp[V.under];exact this
  . have f:=j a _ g;refine⟨by simp[eY,f],λt e b=>?_⟩;have k:=(az.1 b).1;refine⟨.df a ver t 0,?_,?_⟩
    . rw[IX J,f];simp[k]
    . rw[Jf,f];simp[b,g6,Edge.row]
theorem Yi{M:Mem}{mp:List (Int×V)}(l:List Edge)(N s:Nat)(a4:N<=64)(bq:s<N)(S:∀e∈l,e.h_ N)(bj:l.length<=4096)(R:mV M mp l):
 bx aH 225 [aa N,.map 0,aa s] M (λv o=>o=M/\∃D,v=.slice (D.map hw) .bF/\te l N s D):=by
 have bm:=λM=>AD (zero:=[v0,v0,v0]) (sz:=3) (bytes:=24) (n:=N) (M:=M) J J;have ax:(b8 N).length=N:=List.length_range;refine bB Wh ?_;have bi:∀(r:List (List V)),eY (.an M.length 0 0 N) (M++[.aj 3 r 0 0])=I (aa N):=λr=>by simp[eY]
 refine bN bm bi ?_;refine d4 N (λi b a8=>b=[.map 0,aa s,.an M.length 0 0 N,aa N,aa i]/\a8=M++[.aj 3 (((b8 N).take i).map (λi:Nat=>hw ⟨(i:Int),-1,-1⟩)++d_ (N -i) [v0,v0,v0]) 0 0]) ⟨rfl,by simp⟩ ?_ ?_
 . rintro i b a8 T a9 ⟨rfl,rfl⟩;have k:(b8 N)[i]? =I i:=by simp[T]
   have ab:=z0 (b8 N) (λi:Nat=>hw ⟨(i:Int),-1,-1⟩) [v0,v0,v0] (i:=i) J;have af:=zZ (l:=b8 N) (f:=λi:Nat=>hw ⟨(i:Int),-1,-1⟩) (z:=[v0,v0,v0]) (i:=i) J;have ai:=z1 (f:=λi:Nat=>hw ⟨(i:Int),-1,-1⟩) (z:=[v0,v0,v0]) k;rw[ax] at ab af ai;have aR:decide (i<N)=U:=be T;have aU:=λL=>cE M L;have aV:=λL=>iJ M L;simp only[hw] at ai ab af;refine oe a9 @hw.eq_1 aU aV ab af ai aR ?_;exact bE T ⟨rfl,rfl⟩
 rintro b a8 ⟨rfl,rfl⟩;have bz:((b8 N).take N).map (λi:Nat=>hw ⟨(i:Int),-1,-1⟩)++d_ (N -N) [V.int .i64 0,v0,v0]=(m5 N).map hw:=by rw[eS (by rw[ax];omega),hA];simp[m5]
 rw[bz];refine aL @bV ?_;refine ch NC ?_;rintro v _ ⟨rfl,rfl⟩;refine ah ?_;have h:=R.own;have bG:(M++[au.aj 3 ((m5 N).map hw) 0 0]++[au.box [.cI 236 [],.slice [] .nil,v0]])[M.length+1]? =I (.box [.cI 236 [],.slice [] .nil,v0]):=by rw[cS,fW];rfl
 have d:b4 (M++[au.aj 3 ((m5 N).map hw) 0 0]++[au.box [.cI 236 [],.slice [] .nil,v0]]).length (M++[au.aj 3 ((m5 N).map hw) 0 0]++[au.box [.cI 236 [],.slice [] .nil,v0]])=U:=by rw[cS,n0,b0,n1 (Nat.le_add_right _ _) M h];simp[b4,au.under,cd,V.under]
 refine ch (Pb ⟨(s:Int),0,0⟩ bG d) ?_;rintro v _ ⟨rfl,rfl⟩;have bd:b2 (M++[au.aj 3 ((m5 N).map hw) 0 0]++[au.box [.cI 236 [],.slice [] .nil,v0]]++[.box (cB.cells ⟨(s:Int),0,0⟩),.dead]) (M.length+1) ((M++[au.aj 3 ((m5 N).map hw) 0 0]++[au.box [.cI 236 [],.slice [] .nil,v0]]).length+1) [(⟨(s:Int),0,0⟩,0)] [] 0 1=
  ae M s (m5 N) [(⟨(s:Int),0,0⟩,0)] [] 0 1:=by
  rw[ae,jW];simp
 rw[bd];refine ah ?_;have a6:∀(D:List cB)(j:List bO)(ver:Nat)(p:Int),bx aH 238 [.ptr (M.length+1) 0] (ae M s D [] j ver p) (λv o=>v=mw []/\o=ae M s D [] j ver p):=λD j ver p=>O9 (tF h);have a5:∀(D:List cB)(z:bO)(r j:List bO)(ver:Nat)(p:Int),(z::r).length<=1000000000->kL (z::r)->bx aH 238 [.ptr (M.length+1) 0] (ae M s D (z::r) j ver p) (λv o=>v=mw (z::r)/\∃G E,o=ae M s D G E ver p/\wl (z::r) z G):=λD z r j ver p ak am=>O_ (tF h) ak am;have a7:∀(D:List cB)(q j:List bO)(ver:Nat)(p:Int)(x:cB)(L:Mem),b4 (M.length+4+L.length) L=U->q.length<=100000000->0<=p/\p<=1000000000->bx aH 237 [.ptr (M.length+1) 0,.agg x.cells] (ae M s D q j ver p++L) (λv o=>v=.tuple []/\∃G,o=ae M s D G [] (ver+1) (p+1)++L/\yM q (x,p) G):=λD q j ver p x L a3 ak am=>by
  have bg:(jW M s D).length=M.length+4:=by simp[jW]
  unfold ae;rw[m4 (tF h)];refine bx.mono (Pc x ((tF h).a1 (by rw[bg];exact a3)) ak am) ?_;rintro v o ⟨K,G,O,Q⟩;exact⟨K,G,by rw[m4 (tF h)];exact O,Q⟩
 have W:∀(D:List cB)(q j:List bO)(ver:Nat)(p:Int)(L:Mem),(ae M s D q j ver p++L)[M.length]? =I (.aj 3 (D.map hw) 0 0):=λD q j ver p L=>a0 XQ L;have X:∀(D:List cB)(q j:List bO)(ver:Nat)(p:Int)(L:Mem),(ae M s D q j ver p++L)[M.length+4]? =L[0]? :=λD q j ver p L=>by have:=cE (ae M s D q j ver p) L;rwa [jO] at this
 have aN:∀(D:List cB)(q j:List bO)(ver:Nat)(p:Int)(L:Mem)(x:au),(ae M s D q j ver p++L).set (M.length+4) x=ae M s D q j ver p++L.set 0 x:=λD q j ver p L x=>by have:=iJ (ae M s D q j ver p) L x;rwa [jO] at this
 have aO:∀(D:List cB)(q j:List bO)(ver:Nat)(p:Int)(L:Mem),(ae M s D q j ver p++L)[M.length+4+1]? =L[1]? :=λD q j ver p L=>by have:=fW (ae M s D q j ver p) L 1;rwa [jO] at this
 have bA:∀(D:List cB)(q j:List bO)(ver:Nat)(p:Int)(L:Mem)(x:au),(ae M s D q j ver p++L).set (M.length+4+1) x=ae M s D q j ver p++L.set 1 x:=λD q j ver p L x=>by have:=ju (ae M s D q j ver p) L 1 x;rwa [jO] at this
 have bC:∀(D Z:List cB)(q j:List bO)(ver:Nat)(p:Int)(L:Mem),(ae M s D q j ver p++L).set M.length (.aj 3 (Z.map hw) 0 0)=ae M s Z q j ver p++L:=λD Z q j ver p L=>by rw[kh (by rw[jO];omega),XR]
 have bD:∀(D:List cB)(q j:List bO)(ver:Nat)(p:Int)(L:Mem),(ae M s D q j ver p++L)[0]? =I (.map (bX ht mp)):=λD q j ver p L=>a0 (Aj R.p0) L;have fX:∀(D:List cB){u:Int}{x:cB},D[u.toNat]? =I x->(D.map hw)[u.toNat]? =I [aa x.dJ,aa x.len,aa x.dr]:=λD u x k=>by rw[dK,k];rfl
 have bp:kL [((⟨(s:Int),0,0⟩:cB),(0:Int))]:=λi x y T k=>by rw[jd (by simp;omega)] at k;cases k
 refine jz (λm b a8=>∃(D:List cB)(q j:List bO)(ver:Nat)(p:Int)(c:Nat),b=[.map 0,.an M.length 0 0 N,.ptr (M.length+1) 0]/\a8=ae M s D q j ver p/\lx l N s c D q (λ_=>False)/\kL q/\0<=p/\p+(N -c:Nat)*4096<=300000/\m=q.length+(N -c)*4097/\m<=300000)
  (1+N*4097) ⟨m5 N,_,[],0,1,0,rfl,rfl,S4 l N s bq 0,bp,J,J,by simp,J⟩ ?_;rintro m b a8 ⟨D,q,j,ver,p,c,rfl,rfl,a,al,aB,bo,rfl,aA⟩;have bQ:c<=N:=by
  have:=List.countP_le_length (p:=λx:cB=>decide (0<=x.dr)) (l:=D);rw[<-a.ew,a.len] at this;exact this
 cases q with
 |nil=>
  refine ah ?_;refine ch (a6 D j ver p) ?_;rintro v _ ⟨rfl,rfl⟩;refine d0 @mw.eq_1 @jO X aN ?_;rw[show DI=.seq zc .ret from rfl,My,Tl];have bc:∀L:Mem,cY (ae M s D [] j ver p++L) M.length 20 (.an M.length 0 0 N)=I (.slice (D.map hw) .bF):=λL=>by have:=tQ (bf:=M.length) (n:=19) (start:=0) (len:=N) (by simp) (W D [] j ver p L) (by rw[cz,a.len];omega);rw[hN,eS (by rw[cz,a.len];omega)] at this;exact this
  show hC (cY (ae M s D [] j ver p++[_]) M.length 20 (.an M.length 0 0 N)) _;rw[bc];refine⟨?_,IV _,D,rfl,S2 a4 a⟩;rw[IV,h,be (by rw[b0,jO];omega)];rfl
 |cons z r=>
  refine ah ?_;refine ch (a5 D z r j ver p J al) ?_;rintro v _ ⟨rfl,H,E,rfl,P⟩;obtain⟨⟨ca,cb⟩,bJ,b7,b9,b_⟩:=a.nj z (by simp);obtain⟨x,k⟩:∃x,D[z.1.dJ.toNat]? =I x:=⟨D[z.1.dJ.toNat]'(by rw[a.len];omega),by simp⟩;have aM:=fX D k;have ar:decide (z.1.dJ.toNat<N)=U:=bR;have av:decide (N<=D.length)=U:=be (by rw[a.len];omega);simp-implicitDefEqProofs (disch:=omega) only[go_sem,mw,cB.cells,jO,W,X,aN,aM,ar,av];apply aW<;>intro aX
  . refine aL @jO ?_;have ao:=P.len;simp only[cc] at ao aA;refine x0 (H.length+(N -c)*4097) J (IU h _ (by simp[cC,aE,cd,V.under])) ⟨D,H,E,ver,p,c,rfl,i9 jO _,S1 a P k aX S (by simp),P.pV,aB,bo,rfl,J⟩
  obtain⟨aw,ay⟩:=S3 a P k J S (by simp);have bl:z.1.dJ.toNat<D.length:=by rw[a.len];omega
  have br:∀L:Mem,(ae M s D H E ver p++L).set M.length (.aj 3 ((D.map hw).set z.1.dJ.toNat [aa z.1.dJ,aa z.1.len,aa z.1.dr]) 0 0)=ae M s (D.set z.1.dJ.toNat z.1) H E ver p++L:=λL=>by rw[<-bC D (D.set z.1.dJ.toNat z.1) H E ver p L,List.map_set];rfl
  obtain⟨Y,bk,bu,bt⟩:=ZQ R z.1.dJ;refine oe W X aM ar av br bD bk ?_;have ao:=P.len;simp only[cc] at ao aA;have bT:(fd z.1.dJ l).length<=4096:=fJ (lZ _ _) bj;have aK:∀(q j:List bO)(ver:Nat)(p:Int)(L:Mem),eY Y (ae M s (D.set z.1.dJ.toNat z.1) q j ver p++L)=I (aa (fd z.1.dJ l).length)/\∀(t:Nat)(e:Edge),(fd z.1.dJ l)[t]? =I e->∃r,d8 3 Y (aa (t:Int)) (ae M s (D.set z.1.dJ.toNat z.1) q j ver p++L)=I r/\dZ 3 U r (ae M s (D.set z.1.dJ.toNat z.1) q j ver p++L)=I (.agg e.row):=λq j ver p L=>
   bt _ λi B R=>a0 (Aj R) L;have bh:=λq j ver p L=>(aK q j ver p L).1;have bS:c+1<=N:=by
   have:=List.countP_le_length (p:=λx:cB=>decide (0<=x.dr)) (l:=D.set z.1.dJ.toNat z.1);rw[<-aw.ew,cW,a.len] at this;exact this
  have aI:(D.set z.1.dJ.toNat z.1)[z.1.dJ.toNat]? =I z.1:=bY bl;refine aL bh ?_;refine c6 (fd z.1.dJ l) (λt b a8=>∃(g F:List bO)(C:Nat)(d:Int),b=[.map 0,.an M.length 0 0 N,.ptr (M.length+1) 0,.ptr (M.length+4) 0,Y,aa (fd z.1.dJ l).length,aa t]/\a8=ae M s (D.set z.1.dJ.toNat z.1) g F C d++[.box z.1.cells]/\
   lx l N s (c+1) (D.set z.1.dJ.toNat z.1) g (cJ (fd z.1.dJ l) t)/\kL g/\0<=d/\d<=p+t/\g.length<=H.length+t) ⟨H,E,ver,p,rfl,rfl,Eu aw (λe A bn bb=>bn (abC A bb)),P.pV,aB,J,J⟩ ?_ ?_;rotate_left
  . rintro b a8 ⟨g,F,C,d,rfl,rfl,K,O,Q,aZ,a2⟩;refine bN @bV @jO ?_;refine x0 (g.length+(N -(c+1))*4097) J (IU h _ (by simp[cC,aE,cd,V.under])) ⟨_,g,F,C,d,c+1,rfl,i9 jO _,Eu K (λe _ _ ⟨b5,bW,A⟩=>by have:=(az.1 A).1;omega),O,Q,J,rfl,J⟩
  rintro t e b a8 A aG bs ⟨g,F,C,d,rfl,rfl,K,O,Q,aZ,a2⟩;obtain⟨b1,aC,aF⟩:=(aK g F C d [.box z.1.cells]).2 t e A;have a_:=(jf.1 (bI A)).1;obtain⟨⟨b3,bP⟩,⟨bK,bL⟩,b6,dD⟩:=S e a_;obtain⟨y,aq⟩:∃y,(D.set z.1.dJ.toNat z.1)[e.dst.toNat]? =I y:=⟨(D.set z.1.dJ.toNat z.1)[e.dst.toNat]'(by rw[cW,a.len];omega),by simp⟩;have bw:=fX _ aq;have aS:decide (e.dst.toNat<N)=U:=bR;have aT:decide (N<=(D.set z.1.dJ.toNat z.1).length)=U:=be (by rw[cW,a.len];omega);simp only[cB.cells] at aC aF;simp-implicitDefEqProofs (disch:=omega) only[go_sem,bs,aC,aF,Edge.row,cB.cells,cS,jO,W,aO,bA,bw,aS,aT];have aJ:Y.under (M.length+4+1)=U:=sY (show M.length<=M.length+4+1 by omega) _ bu;have bZ:z.1.len<=1000000/\z.1.dr<=64:=⟨J,J⟩;have aP:∀(D:List cB)(q j:List bO)(ver:Nat)(p:Int)(b:List V)(L:Mem),cd (M.length+4+1) b=U->gu (M.length+4+1) b (ae M s D q j ver p++([au.box [aa z.1.dJ,aa z.1.len,aa z.1.dr]]++L))=U:=λD q j ver p b L bv=>by
   have aD:(ae M s D q j ver p++[au.box [aa z.1.dJ,aa z.1.len,aa z.1.dr]]).length=M.length+4+1:=by rw[b0,jO];rfl
   have ba:decide (M.length+4+1<=(ae M s D q j ver p++([au.box [aa z.1.dJ,aa z.1.len,aa z.1.dr]]++L)).length)=U:=be (by rw[<-cS,b0,aD];omega);rw[gu,ba,bv,<-cS,i9 aD L,n0,n1 (Nat.le_succ _) _ (IT h)];rfl
  have aQ:∀(D:List cB)(q j:List bO)(ver:Nat)(p:Int)(L:Mem),(ae M s D q j ver p++([au.box [aa z.1.dJ,aa z.1.len,aa z.1.dr]]++L)).take (M.length+4+1)=ae M s D q j ver p++[au.box z.1.cells]:=λD q j ver p L=>by rw[<-cS,i9 (by rw[b0,jO];rfl) L];rfl
  apply aW<;>intro aY
  . have bM:IntKind.i64.wrap (z.1.len+e.w)=z.1.len+e.w:=by rw[kY];omega
    refine bN X aO ?_;refine ch (a7 (D.set z.1.dJ.toNat z.1) g F C d ⟨e.dst,z.1.len+e.w,z.1.dr+1⟩ _ (by simp[b4,au.under,cd,V.under]) J J) ?_;rintro v _ ⟨rfl,bH,rfl,ap⟩;have bU:=ap.len;refine aL @jO ?_;refine cN aG (aP _ _ _ _ _ _ [_] (by simp[cC,aE,cd,V.under,aJ];omega)) ⟨bH,[],C+1,d+1,rfl,aQ _ _ _ _ _ [_],S5 K A S aI bJ J ay aq aY ap,ap.pV O,J,J,J⟩
  . refine aL @jO ?_;refine cN aG (aP _ _ _ _ _ _ [_] (by simp[cC,aE,cd,V.under,aJ];omega)) ⟨g,F,C,d,rfl,aQ _ _ _ _ _ [_],S6 K A S aI ay aq J,O,Q,J,J⟩
def iX(D:List cB):V:=.slice (D.map λx=>[aa x.len]) .bF
def MI(l:List Edge)(c:cg)(N:Nat)(m:N<=64)(w:∀e∈l,e.h_ N)(o:l.length<=4096):
 bq aH 218 [aa N,.slice (l.map Edge.row) c] (λv=>∃D:Nat->List cB,v=.tuple [.slice ((b8 N).map λi=>[iX (D i)]) .bF,v0]/\∀i,i<N->te l N i (D i)):=by
 have R:=λM=>AD (zero:=[.slice [] .nil]) (sz:=1) (bytes:=24) (n:=N) (M:=M) J J;have A:(b8 N).length=N:=List.length_range;refine bB Wb (ah ?_);refine d2 (acw l c N m w o) ?_;rintro v rfl;refine ah ?_;refine ch (ZT l c o) ?_;rintro v M ⟨rfl,mp,H⟩;have P:∀(r:List (List V)),eY (.an M.length 0 0 N) (M++[.aj 1 r 0 0])=I (aa N):=λr=>by simp[eY]
 refine bN R P ?_;refine d4 N (λi p a8=>∃D:Nat->List cB,p=[aa N,.map 0,.an M.length 0 0 N,aa N,aa i]/\a8=M++[.aj 1 (((b8 N).take i).map (λk=>[iX (D k)])++d_ (N -i) [.slice [] .nil]) 0 0]/\∀k,k<i->te l N k (D k)) ⟨λ_=>[],rfl,by simp,λk d=>aJ d (c9 _)⟩ ?_ ?_
 . rintro i p a8 b K ⟨D,rfl,rfl,j⟩;refine aL K ?_;refine ch (Yi l N i m b w o (ZO H 1 _ 0 0)) ?_;rintro v _ ⟨rfl,g,rfl,u⟩;refine ah ?_;refine d2 (YH g .bF (by rw[u.len];exact m)) ?_;rintro v rfl;let a:Nat->List cB:=λk=>if k=i then g else D k
   have T:(b8 N)[i]? =I i:=by simp[b]
   have Q:((b8 N).take i).map (λk=>[iX (D k)])=((b8 N).take i).map (λk=>[iX (a k)]):=List.map_congr_left λk d=>by
    have:k<i:=by obtain⟨q,al,S⟩:=t5 d;have:=(az.1 S);obtain⟨X,G⟩:=this;simp at G;omega
    simp[a,show k≠i by omega]
   rw[Q];have s:=z0 (b8 N) (λk=>[iX (a k)]) [.slice [] .nil] (i:=i) J;have t:=zZ (l:=b8 N) (f:=λk=>[iX (a k)]) (z:=[.slice [] .nil]) (i:=i) J;have h:=z1 (f:=λk=>[iX (a k)]) (z:=[.slice [] .nil]) T;rw[A] at s t h;have B:decide (i<N)=U:=be b;have F:[iX (a i)]=[.slice (g.map λx=>[aa x.len]) .bF]:=by simp[a,iX]
   rw[F] at h;have C:=λL=>cE M L;have E:=λL=>iJ M L;refine he C E s t h B ?_;refine bE b ⟨a,rfl,rfl,λk d=>?_⟩;by_cases y:k=i
   . subst y;simp only[a,if_true];exact u
   . simp only[a,ax y];exact j k J
 rintro p a8 ⟨D,rfl,rfl,j⟩;have W:((b8 N).take N).map (λk=>[iX (D k)])++d_ (N -N) [V.slice [] .nil]=(b8 N).map λk=>[iX (D k)]:=by rw[eS (by rw[A];omega),hA];simp
 rw[W];refine aL @bV ?_;rw[Tj];have O:cY (M++[.aj 1 ((b8 N).map λk=>[iX (D k)]) 0 0]) 0 20 (.tuple [.an M.length 0 0 N,v0])=I (.tuple [.slice ((b8 N).map λi=>[iX (D i)]) .bF,v0]):=by have:=tQ (M:=M++[.aj 1 ((b8 N).map λk=>[iX (D k)]) 0 0]) (bf:=0) (n:=18) (start:=0) (len:=N) (id:=M.length) (ver:=0) (by simp) (cE M _) (by simp);rw[hN,eS (by simp)] at this;show((eO (cY _ 0 19) [_,_]).map V.tuple)=_;simp only[eO];rw[this];rfl
 show hC (cY (M++[.aj 1 ((b8 N).map λk=>[iX (D k)]) 0 0]) 0 20 (.tuple [.an M.length 0 0 N,v0])) _;rw[O];exact⟨by simp[V.under,cd,b4],⟨D,rfl,j⟩,by simp,rfl⟩
def i3(k:Int×Int):V:=.agg [aa k.1,aa k.2,.bool ad]
def J6:is (.cells [.int,.int,.bool]) i3:=⟨λ_=>rfl,λx y=>by obtain⟨a,b⟩:=x;obtain⟨c,d⟩:=y;simp[i3,gF,fk,gn,Bool.decide_and]⟩
def qw(bh:Bool)(p:bb):Prop:=bh=U->p.bH=U
theorem JA{α:Type}[DecidableEq α](x:α)(v:V):∀l:List (α×V),∀e∈gI x v l,e=(x,v)∨e∈l
 |[],e,b=>by simp[gI] at b;exact .inl b
 |a::l,e,b=>by
  rw[gI] at b;split at b
  . rcases fI.1 b with h|h
    . exact .inl h
    . exact .inr (by simp[h])
  . rcases fI.1 b with h|h
    . exact .inr (by simp[h])
    . rcases JA x v l e h with h|h
      . exact .inl h
      . exact .inr (by simp[h])
theorem I9{α:Type}[DecidableEq α](x:α)(v:V):∀l:List (α×V),(gI x v l).length<=l.length+1
 |[]=>by simp[gI]
 |a::l=>by
  rw[gI];split
  . simp
  . simp only[cc];have:=I9 x v l;omega
def Af{α:Type}[DecidableEq α]{x:α}{v:V}{l:List (α×V)}(h:eX x l=I v):(x,v)∈l:=by unfold eX at h;obtain⟨e,a,rfl⟩:=cL.1 h;have c:=List.mem_of_find?_eq_some a;have b:=List.find?_some a;simp only[cZ] at b;subst b;exact c
structure s7(l:List bb)(bh:Bool)(i:Nat)(mp:List ((Int×Int)×V)):Prop where
 has:∀(k:Nat)(p:bb),k<i->l[k]? =I p->qw bh p->∃n,eX (p.src,p.dst) mp=I (aa n)/\n<=p.bs
 of:∀e∈mp,∃p∈l,qw bh p/\e.1=(p.src,p.dst)/\e.2=aa p.bs
 len:mp.length<=i
def y5{l:List bb}{bh:Bool}{i:Nat}{mp:List ((Int×Int)×V)}{p:bb}(h:s7 l bh i mp)(d:l[i]? =I p)(ae:qw bh p->∃n,eX (p.src,p.dst) mp=I (aa n)/\n<=p.bs):s7 l bh (i+1) mp:=
 ⟨λk q c al b=>by
   rcases hQ.1 c with a|a
   . exact h.has k q a al b
   . subst a;rw[d] at al;cases al;exact ae b,h.of,Nat.le_succ_of_le h.len⟩
def wG{l:List bb}{bh:Bool}{i:Nat}{mp:List ((Int×Int)×V)}{p:bb}(h:s7 l bh i mp)(c:l[i]? =I p)(j:qw bh p)(ae:∀n,eX (p.src,p.dst) mp=I (aa n)->p.bs<=n):s7 l bh (i+1) (gI (p.src,p.dst) (aa p.bs) mp):=
 ⟨λk q g al f=>by
   rw[qI];split
   . rename_i b;refine⟨p.bs,rfl,?_⟩;rcases hQ.1 g with a|a
     . obtain⟨n,d,o⟩:=h.has k q a al f;rw[b] at d;have:=ae n d;omega
     . subst a;rw[c] at al;cases al;omega
   . rename_i m;rcases hQ.1 g with a|a
     . exact h.has k q a al f
     . subst a;rw[c] at al;cases al;exact aJ rfl m,
  λe b=>by
   rcases JA _ _ _ e b with a|a
   . subst a;exact⟨p,bI c,j,rfl,rfl⟩
   . exact h.of e a,fJ (I9 _ _ _) (Nat.succ_le_succ h.len)⟩
structure yA(l:List bb)(bh:Bool)(E:List Edge):Prop where
 has:∀p∈l,qw bh p->∃e∈E,e.src=p.src/\e.dst=p.dst/\e.w<=p.bs
 of:∀e∈E,∃p∈l,qw bh p/\e.src=p.src/\e.dst=p.dst/\e.w=p.bs
def Cm(e:(Int×Int)×V)(x:Edge):Prop:=e.1=(x.src,x.dst)/\e.2=aa x.w
structure CK(mp:List ((Int×Int)×V))(seen:List Nat)(E:List Edge):Prop where
 has:∀i∈seen,∀e,mp[i]? =I e->∃x∈E,Cm e x
 of:∀x∈E,∃e∈mp,Cm e x
def Tm{l:List bb}{bh:Bool}{mp:List ((Int×Int)×V)}{seen:List Nat}{E:List Edge}(j:s7 l bh l.length mp)(m:CK mp seen E)(s:∀i,i<mp.length->i∈seen):yA l bh E:=
 ⟨λp f u=>by
   obtain⟨k,q⟩:=eb f;obtain⟨n,a,c⟩:=j.has k p (az.1 q).1 q u;obtain⟨i,o⟩:=eb (Af a);obtain⟨x,g,b,d⟩:=m.has i (s i (az.1 o).1) _ o;refine⟨x,g,(congrArg Prod.fst b).symm,(congrArg Prod.snd b).symm,?_⟩;have h:n=x.w:=by injection d
   omega,
  λx g=>by
   obtain⟨e,t,a,c⟩:=m.of x g;obtain⟨p,f,b,d,h⟩:=j.of e t;rw[d] at a;rw[h] at c;refine⟨p,f,b,(congrArg Prod.fst a).symm,(congrArg Prod.snd a).symm,?_⟩;injection c with _ r
   exact r.symm⟩
def Uc{α:Type}(l:List α):l.filter (λ_=>U)=l:=by simp
def us(n:Nat)(seen:List Nat):Nat:=((b8 n).filter λi=>decide (i∉seen)).length
def Mg{n i:Nat}{seen:List Nat}(f:i<n)(k:i∉seen):us n (seen++[i])<us n seen:=by
 unfold us;have key:∀l:List Nat,(l.filter λj=>decide (j∉seen++[i])).length<=(l.filter λj=>decide (j∉seen)).length/\(i∈l->(l.filter λj=>decide (j∉seen++[i])).length<(l.filter λj=>decide (j∉seen)).length):=by
  intro l;induction l with
  |nil=>exact⟨bk _,λh=>by cases h⟩
  |cons a l m=>
   obtain⟨o,e⟩:=m;by_cases c:a=i
   . subst c;have b:decide (a∉seen++[a])=ad:=by simp
     have d:decide (a∉seen)=U:=by simp[k]
     simp only[List.filter_cons,b,d,if_true,cc,gX,if_false];exact⟨J,λ_=>J⟩
   . have b:decide (a∉seen++[i])=decide (a∉seen):=by simp[c]
     simp only[List.filter_cons,b];refine⟨?_,λg=>?_⟩
     . split<;>(try simp only[cc])<;>omega
     . have:=e ((fI.1 g).resolve_left λq=>c q.symm);split<;>(try simp only[cc])<;>omega
 exact(key _).2 (by simp[f])
def Zn{α:Type}(bZ:α->V)(l:List (α×V)):(bX bZ l).length=l.length:=by simp[bX]
def Zm{α:Type}{bZ:α->V}{l:List (α×V)}{i:Nat}{a:V×V}(h:(bX bZ l)[i]? =I a):∃e,l[i]? =I e/\a=(bZ e.1,e.2):=by unfold bX at h;rw[dK] at h;obtain⟨e,b,rfl⟩:=cL.1 h;exact⟨e,b,rfl⟩
theorem Zg{zero:List V}{sz bytes n:Nat}{M:Mem}(f:n<=5000)(e:bytes<=1000):jq zero sz bytes v0 (aa (n:Int)) M=I (.an M.length 0 0 0,M++[.aj sz [] 0 0]):=by have d:(n:Int)*(bytes:Int)<=5000*1000:=Int.mul_le_mul J J J J;have a:decide ((0:Int)<=(n:Int))=U:=bR;have b:decide ((n:Int)*(bytes:Int)<=2^48)=U:=bR;have c:decide ((n:Int)<2^62)=U:=bR;simp only[jq,a,b,c,cR,fS,decide_true,bi];rfl
structure M1(l:List bb)(N:Nat)(bh:Bool)(D:Nat->List cB):Prop where
 aeL:∃E,yA l bh E/\∀i,i<N->te E N i (D i)
def qB(N:Nat)(D:Nat->List cB):V:=.slice ((b8 N).map λi=>[iX (D i)]) .bF
def EA(l:List bb)(c:cg)(N:Nat)(bh:Bool)(ap:N<=64)(av:∀p∈l,p.h_ N)(aC:l.length<=4096):
 bq aH 204 [.slice (l.map bb.row) c,aa N,.bool bh] (λv=>∃D,v=qB N D/\M1 l N bh D):=by
 refine bB Vf (ah ?_);refine c6 l (λi z M=>∃mp,z=[aa N,.bool bh,.map 0,.slice (l.map bb.row) c,aa l.length,aa i]/\M=[.map (bX i3 mp)]/\s7 l bh i mp) ⟨[],rfl,rfl,⟨(λk p a=>aJ a (c9 _)),(λe f=>by cases f),bk _⟩⟩ ?_ ?_
 . rintro i p z M j s L ⟨mp,rfl,rfl,d⟩;refine b6 L j @bb.row.eq_1 ?_;have g:=t0 J6 v0 U (p.src,p.dst) mp;simp only[i3] at g;have A:=B1 J6 (p.src,p.dst) (v:=aa p.bs) mp rfl;simp only[i3] at A;have P:∀n,kE n (bX i3 mp)=U:=λn=>rr n _ λe f=>by
    obtain⟨o,_,_,_,r⟩:=d.of e f;rw[r];rfl
   have y:∀n,kE n (bX i3 (gI (p.src,p.dst) (aa p.bs) mp))=U:=λn=>rr n _ (yj _ rfl _ λe f=>by obtain⟨o,_,_,_,r⟩:=d.of e f;rw[r];rfl);apply cU<;>intro R
   . refine ah ?_;have t:qw bh p:=λq=>by rw[R] at q;cases q
     cases a:eX (p.src,p.dst) mp with
     |none=>rw[a] at g;simp only at g;refine bN g A ?_;exact cN s (by simp[gu,cC,aE,cd,V.under,b4,au.under,y]) ⟨_,rfl,rfl,wG d j t (λn b=>by rw[a] at b;cases b)⟩
     |some v=>
      obtain⟨o,aA,_,_,r⟩:=d.of _ (Af a);simp only at r;subst r;rw[a] at g;simp only at g;refine aL g ?_;apply aW<;>intro ak
      . refine aL A ?_;exact cN s (by simp[gu,cC,aE,cd,V.under,b4,au.under,y]) ⟨_,rfl,rfl,wG d j t (λn b=>by rw[a] at b;injection b with b;injection b with _ b;omega)⟩
      . refine ah ?_;exact cN s (by simp[gu,cC,aE,cd,V.under,b4,au.under,P]) ⟨_,rfl,rfl,y5 d j (λ_=>⟨_,a,J⟩)⟩
   refine ah ?_;apply cU<;>intro G
   . refine ah ?_;exact cN s (by simp[gu,cC,aE,cd,V.under,b4,au.under,P]) ⟨_,rfl,rfl,y5 d j (λt=>by rw[t R] at G;cases G)⟩
   refine ah ?_;have t:qw bh p:=λ_=>G;cases a:eX (p.src,p.dst) mp with
   |none=>rw[a] at g;simp only at g;refine bN g A ?_;exact cN s (by simp[gu,cC,aE,cd,V.under,b4,au.under,y]) ⟨_,rfl,rfl,wG d j t (λn b=>by rw[a] at b;cases b)⟩
   |some v=>
    obtain⟨o,aA,_,_,r⟩:=d.of _ (Af a);simp only at r;subst r;rw[a] at g;simp only at g;refine aL g ?_;apply aW<;>intro ak
    . refine aL A ?_;exact cN s (by simp[gu,cC,aE,cd,V.under,b4,au.under,y]) ⟨_,rfl,rfl,wG d j t (λn b=>by rw[a] at b;injection b with b;injection b with _ b;omega)⟩
    . refine ah ?_;exact cN s (by simp[gu,cC,aE,cd,V.under,b4,au.under,P]) ⟨_,rfl,rfl,y5 d j (λ_=>⟨_,a,J⟩)⟩
 rintro z M ⟨mp,rfl,rfl,d⟩;have w:(bX i3 mp).length=mp.length:=Zn _ _;have aD:=d.len;have ax:=Zg (zero:=[v0,v0,v0]) (sz:=3) (bytes:=24) (n:=mp.length) (M:=[.map (bX i3 mp)]) J J;refine es @bV @vy.eq_1 @vP.eq_1 ax w ?_;refine jz (λm z M=>∃(seen:List Nat)(E:List Edge)(ver:Nat),m=us mp.length seen/\z=[aa N,.an 1 ver 0 E.length,.ptr 2 0]/\M=[.map (bX i3 mp),.aj 3 (E.map Edge.row) ver 0,.iter 0 mp.length seen]/\CK mp seen E/\E.length+m<=mp.length) mp.length
  ⟨[],[],0,by simp[us,Uc],rfl,rfl,⟨(λi s=>by cases s),(λx F=>by cases F)⟩,by simp⟩ ?_;rintro m z M ⟨seen,E,ver,aw,rfl,rfl,H,aB⟩;refine ah ?_;have ao:[au.map (bX i3 mp),.aj 3 (E.map Edge.row) ver 0,.iter 0 mp.length seen][2]? =I (.iter 0 (bX i3 mp).length seen):=by rw[w];rfl
 refine ZY ao rfl (λW=>?_) (λi aF Y Z=>?_)
 . rw[w] at W;have T:=Tm d H W;have am:∀e∈E,e.h_ N:=λe f=>by
    obtain⟨p,j,_,C,u,S⟩:=T.of e f;obtain⟨ab,ae,af,ai⟩:=av p j;exact⟨by rw[C];exact ab,by rw[u];exact ae,by rw[S];exact af,by rw[S];exact ai⟩
   obtain⟨Q,ay⟩:∃Q,kg (.an 1 ver 0 E.length) [.map (bX i3 mp),.aj 3 (E.map Edge.row) ver 0,.iter 0 mp.length seen]=I (.slice (E.map Edge.row) .bF,[.map (bX i3 mp),.aj 3 (E.map Edge.row) ver Q,.iter 0 mp.length seen]):=by
    cases E with
    |nil=>exact⟨0,by simp[kg]⟩
    |cons e E=>exact⟨E.length+1,by simp[kg];rw[eS (by simp)]⟩
   refine aL ay ?_;refine d2 (MI E .bF N ap am J) ?_;rintro v ⟨D,rfl,al⟩;refine ah ?_;exact⟨D,rfl,E,T,al⟩
 rw[w];obtain⟨e,f,rfl⟩:=Zm Y;obtain⟨p,j,t,C,u⟩:=d.of e (bI f);obtain⟨k,v⟩:=e;simp only at C u;subst C u;have X:i<mp.length:=(az.1 f).1;have ar:∀B:au,tH (.ptr 2 0) [.map (bX i3 mp),B,.iter 0 mp.length (seen++[i])]=I (.tuple [.agg [aa p.src,aa p.dst,.bool ad],aa p.bs],[.map (bX i3 mp),B,.iter 0 mp.length (seen++[i])]):=λB=>by
  have C:(bX i3 mp).length.beq mp.length=U:=by rw[w];simp
  simp[tH,Y,w,i3]
 have aq:∀K:au,cw ad 3 24 (.an 1 ver 0 E.length) (.slice [[aa p.src,aa p.dst,aa p.bs]] .full) [.map (bX i3 mp),.aj 3 (E.map Edge.row) ver 0,.iter 0 mp.length (seen++[i]),K]=
  I (.an 1 (ver+1) 0 (E.length+1),[.map (bX i3 mp),.aj 3 ((E++[(⟨p.src,p.dst,p.bs⟩:Edge)]).map Edge.row) (ver+1) 0,.iter 0 mp.length (seen++[i]),K]):=λK=>by
  have L:decide ((E.length+1)*48<=2^48)=U:=bR;simp only[cw,dg,dP,cc,eu,dm,beq_self_eq_true,bi,eU,List.getElem?_cons_succ,hg,cz,cR,Nat.reduceMul,L];simp[Edge.row]
 refine bN ar aq ?_;refine x0 (us mp.length (seen++[i])) (by rw[aw];exact Mg X Z) ?_ ⟨seen++[i],E++[⟨p.src,p.dst,p.bs⟩],ver+1,rfl,by rw[b0];rfl,rfl,⟨λk a e O=>?_,λx F=>?_⟩,?_⟩
 . have y:∀n,kE n (bX i3 mp)=U:=λn=>rr n _ λe f=>by
    obtain⟨o,_,_,_,r⟩:=d.of e f;rw[r];rfl
   simp[gu,cC,aE,cd,V.under,b4,au.under,y]
 . rcases dv.1 a with h|h
   . obtain⟨x,F,u⟩:=H.has k h e O;exact⟨x,by simp[F],u⟩
   . rw[dV] at h;subst h;rw[f] at O;cases O;exact⟨⟨p.src,p.dst,p.bs⟩,by simp,rfl,rfl⟩
 . rcases dv.1 F with h|h
   . exact H.of x h
   . rw[dV] at h;subst h;exact⟨_,bI f,rfl,rfl⟩
 . have:=Mg X Z;rw[b0,hP];omega
def iz(a b:Int):Int:=if a<b then-1 else if b<a then 1 else 0
def o4:List Int->Int
 |[]=>0
 |x::l=>if x=0 then o4 l else x
def pC(p q:bb):Int:=o4 [iz p.src q.src,iz p.dst q.dst,iz p.bs q.bs]
def I1(a:Int):bq aH 154 [aa a] (λv=>v=.bool ad):=by exact bB UJ (kF)
def yy(a b:Int):bq aH 100 [aa a,aa b] (λv=>v=aa (iz a b)):=by
 refine bB UF (ah ?_);refine bG (I1 a) (ah ?_);refine bG (I1 b) (ah ?_);apply aW<;>intro g
 . refine ah ?_;rw[iz,aF g]
 refine ah ?_;apply aW<;>intro c
 . refine ah ?_;rw[iz,ax g,aF c]
 refine ah ?_;rw[iz,ax g,ax c]
def O5(l:List Int)(c:cg)(k:l.length<=10):bq aH 99 [.slice (l.map λn=>[aa n]) c] (λv=>v=aa (o4 l)):=by
 refine bB UH (ah ?_);refine c6 l (λi d M=>d=[v0,.slice (l.map λn=>[aa n]) c,aa l.length,aa i]/\M=[]/\o4 l=o4 (l.drop i)) ⟨rfl,rfl,rfl⟩ ?_ ?_;rotate_left
 . rintro d M ⟨rfl,rfl,h⟩;refine aL @bV ?_;rw[h,List.drop_length];rfl
 rintro i n d M b a j ⟨rfl,rfl,h⟩;have f:l.drop i=n::l.drop (i+1):=by
  have:=mM a;rw[this];have e:l[i]=n:=by have:=cG a;rw[this] at b;cases b;rfl
  rw[e]
 refine bN j b ?_;apply aW<;>intro g
 . refine ah ?_;refine cN a rfl ⟨rfl,rfl,?_⟩;rw[h,f,o4,aF g]
 . refine ah ?_;rw[h,f,o4,ax g]
theorem zz(p q:bb):bq aH 207 [.agg p.row,.agg q.row] (λv=>v=aa (pC p q)):=by refine bB Vc (aL @bb.row.eq_1 ?_);refine nO (yy p.src q.src) (ah ?_);refine nO (yy p.dst q.dst) (ah ?_);refine bG (yy p.bs q.bs) (ah ?_);refine bG (O5 [iz p.src q.src,iz p.dst q.dst,iz p.bs q.bs] .full (by simp)) (ah ?_);rfl
structure iv(M:Mem)(x:V)(l:List bb):Prop where
 len:∀L,eY x (M++L)=I (aa l.length)
 px:∀(i:Nat)(p:bb),l[i]? =I p->∃a,∀L,d8 4 x (aa i) (M++L)=I a/\dZ 4 U a (M++L)=I (.agg p.row)
 uu:V.under M.length x=U
 own:b4 M.length M=U
def acB{M:Mem}(h:b4 M.length M=U):iv M (.slice [] .nil) []:=⟨λ_=>rfl,λi p a=>by simp at a,rfl,h⟩
theorem acA{M:Mem}{a ver d:Nat}{l:List bb}(h:b4 M.length M=U)(b:M[a]? =I (.aj 4 (l.map bb.row) ver d)):iv M (.an a ver 0 l.length) l:=by
 have g:=(az.1 b).1;refine⟨λL=>by simp[eY,a0 b L],λi p c=>?_,by simp[V.under];exact g,h⟩;have j:=(az.1 c).1;have e:decide (0<=(i:Int))=U:=bR;have f:decide (i<l.length)=U:=be j;refine⟨.df a ver i 0,λL=>⟨?_,?_⟩⟩
 . simp only[d8,e,bi,a0 b L,beq_self_eq_true,dU,f,cz,dm,bk,decide_true,cR,bi]
 . simp only[dZ,a0 b L,beq_self_eq_true,bi,dK,c,jE];rfl
theorem iv.a1{M L:Mem}{x:V}{l:List bb}(h:iv M x l)(b:b4 (M.length+L.length) L=U):iv (M++L) x l:=by
 refine⟨λK=>by rw[cS];exact h.len _,λi p d=>?_,?_,?_⟩
 . obtain⟨a,c⟩:=h.px i p d;exact⟨a,λK=>by rw[cS];exact c _⟩
 . rw[b0];exact sY J _ h.uu
 . rw[n0,b0,n1 (Nat.le_add_right _ _) M h.own,b];rfl
def pu(l:List bb):Prop:=∀(i j:Nat)(p q:bb),i<j->l[i]? =I p->l[j]? =I q->0<=pC q p
abbrev mg:V:=.cI 207 []
def A3{M:Mem}{x:V}{l:List bb}{i j:Nat}(k:V)(H:iv M x l)(ae:pu l)(h:i<j)(n:j<l.length):
 bx aH 246 [x,aa i,aa j,k,mg] M (λv f=>v=.tuple [aa i,aa j]/\f=M):=by
 obtain⟨p,e⟩:∃p,l[i]? =I p:=⟨l[i]'J,by simp⟩;obtain⟨q,al⟩:∃q,l[j]? =I q:=⟨l[j],by simp⟩;obtain⟨a,c⟩:=H.px i p e;obtain⟨b,d⟩:=H.px j q al;have c:=c [];have d:=d [];simp only[ez] at c d;have m:=ae i j p q h e al;refine bB Wz (d0 c.1 c.2 d.1 d.2 ?_);refine bG (zz q p) (ah ?_);refine aW (λg=>aJ g J) (λ_=>?_);refine ah ?_;rw[f_];exact⟨H.own,rfl⟩
def AH{M:Mem}{x:V}{l:List bb}{i j k:Nat}(a:V)(H:iv M x l)(ae:pu l)(b:i<j)(d:j<k)(e:k<l.length):
 bx aH 241 [x,aa i,aa j,aa k,a,mg] M (λv c=>v=aa j/\c=M):=by
 have f:M.take M.length=M:=f_;refine bB Wx (ah ?_);refine kc (A3 a H ae b J) ?_;refine ah ?_;refine kc (A3 a H ae d e) ?_;refine ah ?_;refine kc (A3 a H ae b J) ?_;exact i_ f H.own
def AG{M:Mem}{x:V}{l:List bb}{j:Nat}(a:V)(H:iv M x l)(ae:pu l)(g:0<j)(e:j+1<l.length)(h:l.length<=4096):
 bx aH 240 [x,aa j,a,mg] M (λv b=>v=aa j/\b=M):=by
 have f:M.take M.length=M:=f_;have c:IntKind.i64.wrap ((j:Int) -1)=((j -1:Nat):Int):=by rw[kY];omega
 have d:IntKind.i64.wrap ((j:Int)+1)=((j+1:Nat):Int):=by rw[kY];omega
 refine bB Wv (bN c d ?_);refine kc (AH a H ae J J e) ?_;exact i_ f H.own
def aaP(n:Nat)(a:n<=1000000000):cT .quo .none (aa (n:Int)) (aa 4)=I (aa ((n/4:Nat):Int)):=by rw[wH _ _ _ _ J];have:Int.tdiv (n:Int) 4=((n/4:Nat):Int):=rfl;rw[this,kH _ J J]
def Ss{M:Mem}{x:V}{l:List bb}(H:iv M x l)(ae:pu l)(b:l.length<=4096)(j:12<l.length):
 bx aH 229 [x,v0,aa l.length,mg] M (λv e=>v=.tuple [aa ((l.length/4*2:Nat):Int),aa 1]/\e=M):=by
 have d:∀L:Mem,(M++L).take M.length=M:=λL=>i9 rfl L;have le:∀L:Mem,decide (M.length<=M.length+L.length)=U:=λL=>bR;have q:=aaP l.length J;have c:=λL=>cE M L;have f:IntKind.i64.wrap (((l.length/4:Nat):Int)*1)=((l.length/4*1:Nat):Int):=by rw[kY];omega
 have h:IntKind.i64.wrap (((l.length/4:Nat):Int)*2)=((l.length/4*2:Nat):Int):=by rw[kY];omega
 have i:IntKind.i64.wrap (((l.length/4:Nat):Int)*3)=((l.length/4*3:Nat):Int):=by rw[kY];omega
 have a:iv (M++[.box [v0]]) x l:=H.a1 (by simp[b4,au.under,cd,V.under]);refine bB Wr (he q f h i @Int.sub_zero @Int.zero_add ?_);refine aW (λ_=>?_) (λg=>aJ g J);refine ah ?_;apply aW<;>intro g
 . refine ah ?_;refine kc (AG _ a ae J J b) ?_;refine ah ?_;refine kc (AG _ a ae J J b) ?_;refine ah ?_;refine kc (AG _ a ae J J b) ?_;refine ah ?_;refine kc (AH _ a ae J J J) ?_;exact pj c d H.own
 refine ah ?_;refine kc (AH _ a ae J J J) ?_;exact pj c d H.own
def aai{M:Mem}{x:V}{l:List bb}(H:iv M x l)(ae:pu l)(u:l.length<=4096)(w:1<l.length):
 bx aH 231 [x,v0,aa l.length,mg] M (λv h=>v=.bool U/\h=M):=by
 have o:M.take M.length=M:=f_;refine bB WB (aL @Int.zero_add ?_);refine jz (λ_ e N=>N=M/\e=[x,v0,aa l.length,mg,aa 1,v0]) 0 ⟨rfl,rfl⟩ ?_;rintro _ e N ⟨rfl,rfl⟩;refine ah ?_;refine jz (λm e a8=>a8=N/\∃i:Nat,1<=i/\i<=l.length/\m=l.length -i/\e=[x,v0,aa l.length,mg,aa i,v0]) (l.length -1) ⟨rfl,1,J,J,rfl,rfl⟩ ?_;rintro m e a8 ⟨rfl,i,r,s,rfl,rfl⟩;refine ah ?_;apply aW<;>intro g
 . have j:IntKind.i64.wrap ((i:Int) -1)=((i -1:Nat):Int):=by rw[kY];omega
   have k:IntKind.i64.wrap ((i:Int)+1)=((i+1:Nat):Int):=by rw[kY];omega
   obtain⟨p,f⟩:∃p,l[i -1]? =I p:=⟨l[i -1]'J,by simp⟩;obtain⟨q,al⟩:∃q,l[i]? =I q:=⟨l[i]'J,by simp⟩;obtain⟨a,c⟩:=H.px _ p f;obtain⟨b,d⟩:=H.px _ q al;have c:=c [];have d:=d [];simp only[ez] at c d;have t:=ae (i -1) i p q J f al;refine es j c.1 c.2 d.1 d.2 ?_;refine bG (zz q p) (ah ?_);refine aW (λg=>aJ g J) (λ_=>?_);refine aL k ?_;exact sJ (l.length -(i+1)) J ⟨rfl,i+1,J,J,rfl,rfl⟩
 . have n:i=l.length:=J;subst n;refine ah ?_;rw[o];exact⟨H.own,rfl⟩
def X4{M:Mem}{x:V}{l:List bb}(H:iv M x l)(ae:pu l)(t:l.length<=4096):
 bx aH 226 [x,v0,aa l.length,mg] M (λv h=>v=.tuple []/\h=M):=by
 have n:M.take M.length=M:=f_;refine bB Wt (aL @Int.zero_add ?_);refine jz (λm e a8=>a8=M/\∃i:Nat,1<=i/\(i<=l.length∨i=1)/\m=l.length -i/\e=[x,v0,aa l.length,mg,aa i]) (l.length -1) ⟨rfl,1,J,J,rfl,rfl⟩ ?_;rintro m e a8 ⟨rfl,i,o,r,rfl,rfl⟩;refine ah ?_;apply aW<;>intro g
 . have j:IntKind.i64.wrap ((i:Int) -1)=((i -1:Nat):Int):=by rw[kY];omega
   have k:IntKind.i64.wrap ((i:Int)+1)=((i+1:Nat):Int):=by rw[kY];omega
   obtain⟨p,f⟩:∃p,l[i -1]? =I p:=⟨l[i -1]'J,by simp⟩;obtain⟨q,al⟩:∃q,l[i]? =I q:=⟨l[i]'J,by simp⟩;obtain⟨a,c⟩:=H.px _ p f;obtain⟨b,d⟩:=H.px _ q al;have c:=c [];have d:=d [];simp only[ez] at c d;have s:=ae (i -1) i p q J f al;refine ah ?_;refine jz (λ_ e N=>N=a8/\e=[x,v0,aa l.length,mg,aa i,aa i]) 0 ⟨rfl,rfl⟩ ?_;rintro _ e N ⟨rfl,rfl⟩;refine ah ?_;refine aW (λ_=>?_) (λg=>aJ g J);refine es j c.1 c.2 d.1 d.2 ?_;refine bG (zz q p) (ah ?_);refine aW (λg=>aJ g J) (λ_=>?_);refine aL k ?_;exact sJ (l.length -(i+1)) J ⟨rfl,i+1,J,J,rfl,rfl⟩
 . refine ah ?_;rw[n];exact⟨H.own,rfl⟩
def aal{M:Mem}{x:V}{l:List bb}(b:Int)(H:iv M x l)(ae:pu l)(a:l.length<=4096)(i:12<l.length->b≠0):
 bx aH 219 [x,v0,aa l.length,aa b,mg] M (λv e=>v=.tuple []/\e=M):=by
 have c:M.take M.length=M:=f_;refine bB WD (ah ?_);refine jz (λ_ d N=>N=M/\d=[x,v0,aa l.length,aa b,mg,.bool U,.bool U]) 0 ⟨rfl,rfl⟩ ?_;rintro _ d N ⟨rfl,rfl⟩;refine aL @Int.sub_zero ?_;apply aW<;>intro g
 . refine ah ?_;refine kc (X4 H ae a) ?_;exact i_ c H.own
 refine ah ?_;refine aW (λh=>aJ h (i J)) (λ_=>?_);refine ah ?_;refine kc (Ss H ae a J) ?_;have f:decide ((1:Int)=2)=ad:=rfl;have j:decide ((1:Int)=1)=U:=rfl;refine aL f ?_;refine kc (aai H ae a J) ?_;exact i_ c H.own
theorem aen(P:Program)(a b:bu)(Q:Exit->av->Mem->Prop)(s:av)(M:Mem):ck P (.cond (.const (.bool ad)) a b) Q s M=ck P b Q s M:=by rw[aeh (t:=ad) rfl];rfl
def xq:List UInt8:=[0,1,2,2]++(d_ 4 3++(d_ 8 4++(d_ 16 5++(d_ 32 6++(d_ 64 7++d_ 128 8)))))
def YB:∀n:Nat,n<256->(xq[n]?.any λb=>n==0||decide (0<b.toNat))=U:=by decide+kernel
theorem YA(n:Nat)(d:n<256):∃b:UInt8,xq[n]? =I b/\(0<n->0<b.toNat):=by
 have h:=YB n d;cases a:xq[n]? with
 |none=>rw[a] at h;cases h
 |some b=>
  rw[a] at h;refine⟨b,rfl,λe=>?_⟩;have c:(n==0)=ad:=by simp;omega
  simp only[Option.any_some,c,Bool.false_or] at h;exact of_decide_eq_true h
def Yv(n:Nat)(f:n<256):bq aH 187 [.int .u64 n] (λv=>∃k:Int,v=aa k/\(0<n->k≠0)):=by
 have a:IntKind.u8.wrap (n:Int)=n:=by show(n:Int)%256=n;omega
 refine bB GU (ah ?_);refine aW (λg=>aJ g J) (λ_=>?_);refine ah ?_;refine aW (λg=>aJ g J) (λ_=>?_);refine ah ?_;refine aW (λg=>aJ g J) (λ_=>?_);refine aL a ?_;obtain⟨b,d,e⟩:=YA n f;have i:=UInt8.toNat_lt b;change hC (Option.map (λb=>V.int .u8 (b.toNat:Int)) xq[n]?) _;rw[d];have c:IntKind.i64.wrap (b.toNat:Int)=b.toNat:=by rw[kY];omega
 refine bN c @Int.zero_add ?_;exact⟨_,rfl,λh=>by have:=e h;omega⟩
def YG(n:Nat)(b:n<256):bq aH 153 [.int .u64 n] (λv=>∃k:Int,v=aa k/\(0<n->k≠0)):=by
 refine bB GV (ah ?_);first
  |(rw[aen]
    exact kF)
  |skip
 refine d2 (Yv n b) ?_;rintro v ⟨k,rfl,a⟩;refine ah ?_;exact⟨k,rfl,a⟩
def Pt{M:Mem}{x:V}{l:List bb}(H:iv M x l)(ae:pu l)(e:l.length<256):
 bx aH 206 [x,mg] M (λv b=>v=.tuple []/\b=M):=by
 have f:M.take M.length=M:=f_;have a:=H.len [];rw[ez] at a;have c:IntKind.u64.wrap (l.length:Int)=l.length:=v9 _ J;refine bB Wp (bN a c ?_);refine d2 (YG l.length e) ?_;rintro v ⟨k,rfl,d⟩;refine ah ?_;refine kc (aal k H ae J λ_=>d J) ?_;exact i_ f H.own
def Ew{l:List bb}{N s:Nat}{bh:Bool}{W:Nat->Nat->Int}{E:List Edge}{a:List cB}(g:l6 l N bh W)(D:yA l bh E)(b:te E N s a)(ae:s<N)(K:∀p∈l,p.h_ N){k:Nat}(A:k<N)(L:k≠s):
 ∃x,a[k]? =I x/\(x.len=W s k∨(x.len=-1/\W s k=dL)):=by
 have H:dL=1099511627776:=rfl;obtain⟨x,n⟩:∃x,a[k]? =I x:=⟨a[k]'(by rw[b.len];exact A),by simp⟩;refine⟨x,n,?_⟩;let o:Nat->Int:=λj=>match a[j]? with|some y=>if 0<=y.dr then y.len else dL|none=>dL
 have f:∀j y,a[j]? =I y->o j=if 0<=y.dr then y.len else dL:=λj y c=>by simp only[o,c]
 have key:=g.ng o (λi _=>by
  cases c:a[i]? with
  |none=>simp only[o,c,H];omega
  |some y=>
   rw[f i y c];split
   . rcases b.fin i y c with h|h
     . omega
     . omega
   . omega) (λp m d=>by
  obtain⟨e,t,q,r,C⟩:=D.has p m d;obtain⟨⟨Q,R⟩,⟨S,T⟩,V,X⟩:=K p m;obtain⟨u,F⟩:∃u,a[p.src.toNat]? =I u:=⟨a[p.src.toNat]'(by rw[b.len];omega),by simp⟩;obtain⟨w,B⟩:∃w,a[p.dst.toNat]? =I w:=⟨a[p.dst.toNat]'(by rw[b.len];omega),by simp⟩;rw[f _ _ F,f _ _ B];have ab:=b.fin _ _ B;by_cases v:0<=u.dr
  . obtain⟨y,c,G,Y⟩:=b.rel e t u (by rw[q];exact F) v;rw[r,B] at c;cases c;rw[aF v,aF G];omega
  . rw[ax v];split<;>omega) s k ae A;obtain⟨z,M,O,P⟩:=b.src;rw[f k x n,f s z M,aF O,P] at key;have Z:=g.iR s k ae A;by_cases d:0<=x.dr
 . rw[aF d] at key;have aa:=b.low W ⟨λe t=>by obtain⟨p,m,J,q,r,C⟩:=D.of e t;rw[q,r,C];exact g.nR p m J,g.rp⟩ k x n d L;left;omega
 . rw[ax d] at key;right;rcases b.fin k x n with h|h<;>omega
def Ez{l:List bb}{N:Nat}{W F:Nat->Nat->Int}(a:l6 l N ad W)(e:l6 l N U F)(f:∀p∈l,p.h_ N){i k:Nat}(b:i<N)(h:k<N)(m:k≠i):W i k<=F i k:=by
 have x:dL=1099511627776:=rfl;have key:=e.ng (λj=>if j=i then 0 else W i j) (λj g=>by
  show 0<=(if j=i then(0:Int) else W i j)/\(if j=i then(0:Int) else W i j)<=dL;have:=a.iR i j b g;split<;>omega) (λp c _=>by
  obtain⟨⟨n,o⟩,⟨r,s⟩,t,u⟩:=f p c;have d:=a.nR p c (λq=>by cases q);have v:=a.rp i p.dst.toNat p.src.toNat b J J;show(if p.dst.toNat=i then(0:Int) else W i p.dst.toNat)<=(if p.src.toNat=i then(0:Int) else W i p.src.toNat)+p.bs;have w:=a.iR i p.src.toNat b J;by_cases ae:p.src.toNat=i
  . rw[ae] at d;rw[aF ae];split<;>omega
  . rw[ax ae];split<;>omega) i k b h;simp only[ax m,aF] at key;omega
def oA(a b:Nat)(n:Int)(f:Bool):List bb:=if 0<n/\n<=14400 then[⟨a,b,n,f⟩] else[]
theorem Sd{W F:Nat->Nat->Int}{i k:Nat}{n f:Int}(o:i≠k)(g:0<W i k)(h:W i k<=F i k)(m:n=W i k∨(n=-1/\W i k=dL))(l:f=F i k∨(f=-1/\F i k=dL)):
 jn W F i k=oA i k n (decide (f=n))++if f=n then[] else oA i k f U:=by
 have j:dL=1099511627776:=rfl;unfold jn oA;by_cases e:14400<W i k
 . rw[aF (.inr e),ax J];split
   . rfl
   . rw[ax J];rfl
 have d:n=W i k:=J;subst d;rw[ax (show¬(i=k∨14400<W i k) by omega),aF (show 0<W i k/\W i k<=14400 by omega)];by_cases a:f=W i k
 . have b:F i k=W i k:=J;rw[aF a,ax J,b,a];simp
 . rw[ax a];have c:decide (F i k=W i k)=decide (f=W i k):=by
    rw[decide_eq_false a];exact h8
   rw[c];by_cases b:F i k<=14400
   . have:f=F i k:=J;subst this;rw[aF J,aF J];rfl
   . rw[ax J,ax J];rfl
def SI{p q:bb}(h:p.src<q.src):0<=pC q p:=by
 unfold pC;have:iz q.src p.src=1:=by unfold iz;rw[ax J,aF h]
 rw[this];simp[o4]
def SG{p q:bb}(b:p.src=q.src)(h:p.dst<q.dst):0<=pC q p:=by
 unfold pC;have a:iz q.src p.src=0:=by unfold iz;rw[ax J,ax J]
 have:iz q.dst p.dst=1:=by unfold iz;rw[ax J,aF h]
 rw[this,a];simp[o4]
def SH{p q:bb}(c:p.src=q.src)(d:p.dst=q.dst)(h:p.bs<=q.bs):0<=pC q p:=by
 unfold pC;have a:iz q.src p.src=0:=by unfold iz;rw[ax J,ax J]
 have b:iz q.dst p.dst=0:=by unfold iz;rw[ax J,ax J]
 have:0<=iz q.bs p.bs:=by unfold iz;rw[ax J];split<;>omega
 rw[a,b];simp only[o4,aF];split<;>omega
def wT{W F:Nat->Nat->Int}{i k:Nat}{p:bb}(h:p∈jn W F i k):p.src=i/\p.dst=k:=by
 unfold jn at h;split at h
 . cases h
 . rcases fI.1 h with h|h
   . subst h;exact⟨rfl,rfl⟩
   . split at h
     . rw[dV] at h;subst h;exact⟨rfl,rfl⟩
     . cases h
def Sx(W F:Nat->Nat->Int)(N:Nat):pu (fb W F N N):=by
 have r:(fb W F N N).Pairwise (λp q=>0<=pC q p):=by
  unfold fb;rw[List.pairwise_flatMap];refine⟨λi _=>?_,?_⟩
  . unfold jp;rw[List.pairwise_flatMap];refine⟨λk _=>?_,?_⟩
    . unfold jn;split
      . exact .nil
      . split
        . rename_i h;refine .cons (λq al=>?_) (.cons (λq al=>by cases al) .nil);rw[dV] at al;subst al;exact SH rfl rfl (Int.le_of_lt h.1)
        . exact .cons (λq al=>by cases al) .nil
    . refine List.Pairwise.imp ?_ List.pairwise_lt_range;intro a b l p c q al;obtain⟨d,e⟩:=wT c;obtain⟨f,g⟩:=wT al;exact SG (by rw[d,f]) (by rw[e,g];omega)
  . refine List.Pairwise.imp ?_ List.pairwise_lt_range;intro a b l p c q al;unfold jp at c al;obtain⟨_,_,c⟩:=List.mem_flatMap.1 c;obtain⟨_,_,al⟩:=List.mem_flatMap.1 al;exact SI (by rw[(wT c).1,(wT al).1];omega)
 intro i j p q n c al;obtain⟨m,c⟩:=az.1 c;obtain⟨o,al⟩:=az.1 al;have:=List.pairwise_iff_getElem.1 r i j m o n;rw[c,al] at this;exact this
def kq(l:List bb)(ver:Nat):Mem:=match l with
 |[]=>[.box [.slice [] .nil]]
 |p::r=>[.box [.an 1 ver 0 (p::r).length],.aj 4 ((p::r).map bb.row) ver 0]
def tA(l:List bb)(ver:Nat):V:=match l with
 |[]=>.slice [] .nil
 |p::r=>.an 1 ver 0 (p::r).length
theorem zw(l:List bb)(ver:Nat)(L:Mem):(kq l ver++L)[0]? =I (.box [tA l ver]):=by cases l<;>rfl
theorem Sw(l:List bb)(ver:Nat)(a b:Nat)(n:Int)(f:Bool)(e:l.length<=100000):∃c a8,cw ad 4 32 (tA l ver) (.slice [[aa a,aa b,aa n,.bool f]] .full) (kq l ver)=I (.an 1 c 0 (l.length+1),a8)/\
 a8.set 0 (.box [.an 1 c 0 (l.length+1)])=kq (l++[⟨a,b,n,f⟩]) c/\a8[0]? =I (.box [tA l ver]):=by
 cases l with
 |nil=>exact⟨0,[.box [.slice [] .nil],.aj 4 ([(⟨a,b,n,f⟩:bb)].map bb.row) 0 0],by simp[tA,kq,cw,dg,eU,dP,bb.row],rfl,rfl⟩
 |cons q l=>have d:decide ((l.length+1+1)*64<=2^48)=U:=be (by simp only[cc] at e;omega);refine⟨ver+1,[.box [.an 1 ver 0 (l.length+1)],.aj 4 ((q::l++[(⟨a,b,n,f⟩:bb)]).map bb.row) (ver+1) 0],?_,by simp[kq],rfl⟩;simp only[tA,kq,cw,dg,dP,cc,eu,dm,beq_self_eq_true,bi,eU,List.getElem?_cons_succ,hg,cz,cR,Nat.reduceMul,d,List.set_cons_succ,List.set_cons_zero,fG,gg,iL,jD,bb.row]
def C0(l:List bb)(ver:Nat)(a b:Nat)(n:Int)(f:Bool)(m:l.length<=100000):
 bx aH 205 [aa a,aa b,aa n,.bool f,.ptr 0 0] (kq l ver) (λv e=>v=.tuple []/\∃c,e=kq (l++oA a b n f) c):=by
 obtain⟨c,a8,i,j,k⟩:=Sw l ver a b n f m;have d:=zw l ver [];rw[ez] at d;refine dX Va ?_;simp only[dN];refine ah ?_;apply cF<;>intro g
 . refine ah ?_;exact⟨ver,by rw[oA,ax J,ez]⟩
 refine ah ?_;apply cF<;>intro h
 . refine ah ?_;exact⟨ver,by rw[oA,ax J,ez]⟩
 refine d0 d i j k ?_;exact⟨c,by rw[oA,aF ⟨g,h⟩]⟩
def D_(l:List bb)(ver:Nat):b4 (kq l ver).length (kq l ver)=U:=by cases l<;>simp[kq,b4,au.under,cd,V.under]
theorem Sv(l:List bb)(ver:Nat):iv (kq l ver) (tA l ver) l:=by
 cases l with
 |nil=>exact acB (D_ [] ver)
 |cons p r=>exact acA (a:=1) (D_ (p::r) ver) rfl
def SC(l:List bb)(c:cg)(N:Nat)(W G:Nat->Nat->Int)(q:N<=64)(j:∀p∈l,p.h_ N)(O:l.length<=4096)(s:l6 l N ad W)(A:l6 l N U G)(C:(fb W G N N).length<256):
 bq aH 177 [.slice (l.map bb.row) c,aa N] (λv=>∃S,v=.slice ((fb W G N N).map bb.row) S):=by
 refine bB Vd (ah ?_);refine d2 (EA l c N ad q j O) ?_;rintro v ⟨D,rfl,E,V,w⟩;refine ah ?_;refine d2 (EA l c N U q j O) ?_;rintro v ⟨B,rfl,ak,X,u⟩;refine bN @qB.eq_1 @List.length_range ?_;refine d4 N (λi d M=>∃ver,d=[qB N D,qB N B,.ptr 0 0,.fn 205 [.ptr 0 0],aa N,aa i]/\M=kq (fb W G N i) ver) ⟨0,rfl,rfl⟩ ?_ ?_;rotate_left
 . rintro d M ⟨ver,rfl,rfl⟩;have ci:=0;have T:=λL=>zw (fb W G N N) ver L;have o:=zw (fb W G N N) ver [];rw[ez] at o;refine bN @bV o ?_;refine kc (Pt (Sv _ ver) (Sx W G N) C) ?_;refine ah ?_;clear ci T o C;rw[Tg];generalize fb W G N N=L;cases L with
   |nil=>exact⟨rfl,⟨_,rfl⟩,rfl,rfl⟩
   |cons p r=>show hC (cY (kq (p::r) ver) 0 20 (.an 1 ver 0 (p::r).length)) _;have H:=tQ (M:=kq (p::r) ver) (bf:=0) (n:=19) (id:=1) (ver:=ver) (start:=0) (len:=(p::r).length) (rows:=(p::r).map bb.row) (sz:=4) (fz:=0) rfl rfl (by simp);rw[hN,eS (by simp)] at H;rw[H];exact⟨rfl,⟨_,rfl⟩,rfl,rfl⟩
 rintro i d M a Z ⟨ver,rfl,rfl⟩;have ci:=Ea W G N i q;have ao:=λk=>xt W G i k;have P:(b8 N)[i]? =I i:=by simp[a]
 have z:=(w i a).len;have am:=(u i a).len;refine es Z @qB.eq_1 P @iX.eq_1 z ?_;refine d4 N (λk d M=>∃ver,d=[qB N D,qB N B,.ptr 0 0,.fn 205 [.ptr 0 0],aa i,aa N,aa i,iX (D i),aa N,aa k]/\M=kq (fb W G N i++jp W G i k) ver) ⟨ver,?_,?_⟩ ?_ ?_
 . rfl
 . simp[jp]
 rotate_left
 . rintro d M ⟨ver,rfl,rfl⟩;refine aL @bV ?_;refine bE a ⟨ver,rfl,?_⟩;rw[zx]
 rintro k d M b K ⟨ver,rfl,rfl⟩;have cl:=xt W G i k;by_cases e:k=i
 . subst e;obtain⟨x,t⟩:∃x,(D k)[k]? =I x:=⟨(D k)[k]'(by rw[z];exact b),by simp⟩;refine b6 K t @iX.eq_1 ?_;refine bE b ⟨ver,rfl,?_⟩;have Y:jn W G k k=[]:=by unfold jn;rw[aF (.inl rfl)]
   rw[ms,Y,ez]
 obtain⟨x,t,ae⟩:=Ew s V (w i a) a j b e;obtain⟨y,af,ai⟩:=Ew A X (u i a) a j b e;have ab:=Ez s A j a b e;have m:=Sd (W:=W) (F:=G) (n:=x.len) (f:=y.len) (cA e) (s.iR i k a b).1 ab ae ai;refine b6 K t @iX.eq_1 ?_;refine aW (λh=>aJ J e) (λ_=>?_);refine d0 P @qB.eq_1 af @iX.eq_1 ?_;refine ch (C0 (fb W G N i++jp W G i k) ver i k x.len (decide (y.len=x.len)) (by rw[b0];omega)) ?_;rintro v R ⟨rfl,Q,rfl⟩;refine ah ?_;apply aW<;>intro g
 . refine ah ?_;refine bE b ⟨Q,rfl,?_⟩;rw[aF g,ez] at m;rw[ms,m,cS]
 refine ah ?_;have al:(oA i k x.len (decide (y.len=x.len))).length<=1:=by unfold oA;split<;>simp
 refine ch (C0 (fb W G N i++jp W G i k++oA i k x.len (decide (y.len=x.len))) Q i k y.len U (by rw[b0,b0];omega)) ?_;rintro v R ⟨rfl,aj,rfl⟩;refine ah ?_;refine bE b ⟨aj,rfl,?_⟩;rw[ax g] at m;rw[ms,m,cS,cS]
def ye(k:Int×Int×Bool):V:=.agg [aa k.1,aa k.2.1,.bool k.2.2]
def L9:is (.cells [.int,.int,.bool]) ye:=⟨λ_=>rfl,λx y=>by obtain⟨a,b,c⟩:=x;obtain⟨d,e,f⟩:=y;simp[ye,gF,fk,gn,Bool.decide_and]⟩
def xY(k:Int×Int×Bool):V:=.agg [aa k.1,aa k.2.1,v0,.bool k.2.2]
def Kw:is (.cells [.int,.int,.int,.bool]) xY:=⟨λ_=>rfl,λx y=>by obtain⟨a,b,c⟩:=x;obtain⟨d,e,f⟩:=y;simp[xY,gF,fk,gn,Bool.decide_and]⟩
def bb.key(p:bb):Int×Int×Bool:=(p.src,p.dst,p.bH)
def Kb{l:List bb}{N i:Nat}{p:bb}(h:yK l N i p)(d:l[i]? =I p):p.key∉(l.take i).map bb.key:=
 vt λk o b c a=>h.2.2 k o b c ⟨congrArg (·.1) a,congrArg (·.2.1) a,congrArg (·.2.2) a⟩
def acU(l:List bb)(c:cg)(N:Nat)(t:l.length<256)(ae:nJ l N):bq aH 176 [.slice (l.map bb.row) c,aa N] (λv=>v=ig (0,0)):=by
 refine bB Vh ?_;simp-implicitDefEqProofs (disch:=omega) only[go_sem];refine c6 l (λi d M=>d=[aa N,.map 0,.slice (l.map bb.row) c,aa l.length,aa i]/\M=[.map (bX ye (hd ((l.take i).map bb.key)))]) ⟨rfl,rfl⟩ ?_ ?_;rotate_left
 . rintro d M ⟨rfl,rfl⟩;simp-implicitDefEqProofs (disch:=omega) only[go_sem,bV,ig]
 rintro i p d M a k j ⟨rfl,rfl⟩;have g:=ae i p a;obtain⟨⟨⟨m,n⟩,⟨o,q⟩,r,s⟩,u,_⟩:=g;have f:=Kb (ae i p a) a;have e:=sr L9 f;have b:=s1 L9 f;rw[ur a] at b;simp only[ye,bb.key] at e b;simp-implicitDefEqProofs (disch:=omega) only[go_sem,j,a,bb.row];refine aW (λh=>aJ h J) (λ_=>?_);simp-implicitDefEqProofs (disch:=omega) only[go_sem];refine aW (λh=>aJ h J) (λ_=>?_);simp-implicitDefEqProofs (disch:=omega) only[go_sem];refine aW (λh=>aJ h J) (λ_=>?_);simp-implicitDefEqProofs (disch:=omega) only[go_sem];refine aW (λh=>aJ h J) (λ_=>?_);simp-implicitDefEqProofs (disch:=omega) only[go_sem];refine aW (λh=>aJ h J) (λ_=>?_);refine aW (λh=>aJ h J) (λ_=>?_);simp-implicitDefEqProofs (disch:=omega) only[go_sem];refine aW (λh=>aJ h J) (λ_=>?_);simp-implicitDefEqProofs (disch:=omega) only[go_sem,e,b];exact cN k (by simp[gu,cC,aE,cd,V.under,b4,au.under,ru]) ⟨rfl,rfl⟩
def Nl(l:List bb)(c:cg)(N:Nat)(j:N<=64)(e:l.length<256)(ae:nJ l N)(n:qm l N):bq aH 150 [.slice (l.map bb.row) c,aa N] (λv=>v=.bool U):=by
 obtain⟨W,G,m,g,d⟩:=n;have r:∀p∈l,p.h_ N:=λp a=>by obtain⟨k,s⟩:=eb a;exact(ae k p s).1
 refine bB U8 ?_;simp-implicitDefEqProofs (disch:=omega) only[go_sem];refine aW (λh=>aJ h J) (λ_=>?_);simp-implicitDefEqProofs (disch:=omega) only[go_sem];refine bG (acU l c N e ae) ?_;simp-implicitDefEqProofs (disch:=omega) only[go_sem,ig];have t:max (N:Int) 0=N:=J;rw[t];refine d2 (SC l c N W G j r J m g (by rw[<-d];exact e)) ?_;rintro v ⟨f,rfl⟩;rw[<-d];simp-implicitDefEqProofs (disch:=omega) only[go_sem];refine c6 l (λi b M=>b=[.slice (l.map bb.row) c,.slice (l.map bb.row) f,aa l.length,aa i]/\M=[]) ⟨rfl,rfl⟩ ?_ ?_;rotate_left
 . rintro b M ⟨rfl,rfl⟩;simp-implicitDefEqProofs (disch:=omega) only[go_sem,bV]
 rintro i p b M a q o ⟨rfl,rfl⟩;simp-implicitDefEqProofs (disch:=omega) only[go_sem,o,a,bb.row];exact bE q ⟨rfl,rfl⟩
def Sp(n:ak)(y:n.wf)(l:n.aB.length<=64)(s:n.bw.length<256)(ae:nJ n.bw n.aB.length)(o:qm n.bw n.aB.length):bq aH 83 [.agg n.row] (λv=>v=.agg (fm 0 0 0)):=by
 refine bB VE ?_;simp-implicitDefEqProofs (disch:=omega) only[go_sem,ak.row];refine c6 n.bw (λi c M=>c=[.ptr 0 0,.ptr 1 0,.map 2,.slice (n.bw.map bb.row) n.la,aa n.bw.length,aa i]/\M=[.box n.row,.box (fm 0 0 0),.map (bX xY (hd ((n.bw.take i).map bb.key)))]) ⟨rfl,rfl⟩ ?_ ?_;rotate_left
 . rintro c M ⟨rfl,rfl⟩;simp-implicitDefEqProofs (disch:=omega) only[go_sem,bV,fm,ak.row];refine bG (Nl n.bw n.la n.aB.length l s ae o) ?_;simp-implicitDefEqProofs (disch:=omega) only[go_sem,fm]
 rintro i p c M a r q ⟨rfl,rfl⟩;have m:=ae i p a;obtain⟨⟨⟨f,g⟩,⟨j,k⟩,w,x⟩,t,_⟩:=m;have e:=Kb (ae i p a) a;have d:=sr Kw e;have b:=s1 Kw e;rw[ur a] at b;simp only[xY,bb.key] at d b;have u:decide (0<=p.src/\p.src<(n.aB.length:Int))=U:=be ⟨f,g⟩;have dD:decide (0<=p.dst/\p.dst<(n.aB.length:Int))=U:=be ⟨j,k⟩;simp-implicitDefEqProofs (disch:=omega) only[go_sem,q,a,bb.row,ak.row];refine bG (t8 _ _) ?_;simp-implicitDefEqProofs (disch:=omega) only[go_sem,u];refine bG (t8 _ _) ?_;simp-implicitDefEqProofs (disch:=omega) only[go_sem,dD];refine aW (λh=>aJ h t) (λ_=>?_);simp-implicitDefEqProofs (disch:=omega) only[go_sem];refine aW (λh=>aJ h J) (λ_=>?_);simp-implicitDefEqProofs (disch:=omega) only[go_sem];refine aW (λh=>aJ h J) (λ_=>?_);simp-implicitDefEqProofs (disch:=omega) only[go_sem,d];simp-implicitDefEqProofs (disch:=omega) only[go_sem,b];exact cN r (by simp[gu,cC,aE,cd,V.under,b4,au.under,ru,fm]) ⟨rfl,rfl⟩
def EZ(l:List (Int×Int×Int))(c:cg)(g:l.length<=10)(h:∀r∈l,r.2.2=0):bq aH 79 [.slice (l.map λr=>fm r.1 r.2.1 r.2.2) c] (λv=>v=.agg (fm 0 0 0)):=
 bq.mono (ZU l c g) λv ⟨p,i,e,j,f⟩=>by obtain⟨a,b,d⟩:=f h;rw[j,a,b,d]
def t7(n:ak)(b:n.wf)(ok:di n):bq aH 37 [.agg n.row] (λv=>v=.tuple [v0,v0,v0]):=by have a:=ok.ok;have ae:=ok.aB;have j:=ok.bw;have i:decide ((0:Int)=0)=U:=rfl;have c:=EZ [(0,0,0),(1,0,0)] .full (by simp) (by simp);have d:=EZ [(0,0,0),(5,0,0)] .full (by simp) (by simp);have e:=Sq n b a.ar;have f:=So n b a.bj;have g:=Sp n b J J a.sO a.Sy;have h:=A8 n.bQ b.bQ;simp only[gg,jD,fm,ak.row,aN.row,a.bQ] at c d e f g h;refine bB Vy (aL @ak.row.eq_1 ?_);refine bG (ac8 n.aB n.ij b.aB.1 a.aB) (aL @ig.eq_1 ?_);refine bG (abY n.ey n.rc b.ey.1 a.ey) (aL @ig.eq_1 ?_);refine bG (AS 0 0 0) (aL @fm.eq_1 ?_);refine bG (AS 1 0 0) (aL @fm.eq_1 ?_);refine bG c (ah ?_);refine bG e (ah ?_);refine bG f (ah ?_);refine bG h (aL @ig.eq_1 ?_);refine bG g (ah ?_);refine bG (AS 5 0 0) (aL @fm.eq_1 ?_);exact bG d (kF)
def eC:Nat->cg
 |0=>.full
 |_+1=>.bF
theorem pw(a bytes:Nat)(c:cg)(M:Mem):cw ad a bytes (.slice [] .full) (.slice [] c) M=I (.slice [] .full,M):=by simp[cw,dg,eU,dP]
theorem sN(a:Nat)(M:Mem):eQ a (.slice [] .full) ag (I (aa ((0:Nat):Int))) (I (aa ((0:Nat):Int))) M=I (.slice [] .full):=rfl
def rW{sz bytes:Nat}{r:List V}{rows:List (List V)}{c:cg}{M:Mem}(b:r.length=sz)(e:bytes<=1000)(f:rows.length<100000):
 cw ad sz bytes (.slice [] .full) (.slice (r::rows) c) M=I (.an M.length 0 0 (rows.length+1),M++[.aj sz (r::rows) 0 0]):=by
 have d:(rows.length+1)*(2*bytes)<=100000*2000:=Nat.mul_le_mul J J;have a:decide ((rows.length+1)*(2*bytes)<=2^48)=U:=bR;simp only[cw,dg,eU,dP,b,beq_self_eq_true,bi,cc,eu,dm,a,decide_true,Bool.or_true,cR,eH]
def rj{sz id ver n:Nat}{rows:List (List V)}{fz:Nat}{M:Mem}(c:M[id]? =I (.aj sz rows ver fz))(d:rows.length=n):eQ sz (.an id ver 0 n) ag (I (aa n)) (I (aa n)) M=I (.an id ver 0 n):=by subst d;have a:decide (0<=(rows.length:Int))=U:=bR;have b:decide (0+rows.length<=rows.length)=U:=bR;simp only[eQ,c,gE,a,bi,dU,beq_self_eq_true,b,c_,bk,decide_true,cR,Nat.sub_zero,g_]
theorem Xt(l:List Stop)(c:cg)(f:l.length<=100000):bq aH 123 [.slice (l.map Stop.row) c] (λv=>v=.slice (l.map Stop.row) (eC l.length)):=by
 refine bB VW ?_;cases l with
 |nil=>have e:=λb=>pw 4 b c [];simp only[jD];simp-implicitDefEqProofs (disch:=omega) only[go_sem,e,sN,eC]
 |cons x l=>have e:=λb(d:b<=1000)=>rW (sz:=4) (bytes:=b) (r:=x.row) (rows:=l.map Stop.row) (c:=c) (M:=[]) rfl d (by rw[cz];simp only[cc] at f;omega);have a:=rj (sz:=4) (id:=0) (ver:=0) (n:=l.length+1) (rows:=x.row::l.map Stop.row) (fz:=0) (M:=[.aj 4 (x.row::l.map Stop.row) 0 0]) rfl (by simp);simp only[gg,cc,eC,cz,eu,eH] at e a⊢;exact i_ e a
theorem Xs(l:List ec)(c:cg)(f:l.length<=100000):bq aH 124 [.slice (l.map ec.row) c] (λv=>v=.slice (l.map ec.row) (eC l.length)):=by
 refine bB VS ?_;cases l with
 |nil=>have e:=λb=>pw 3 b c [];simp only[jD];simp-implicitDefEqProofs (disch:=omega) only[go_sem,e,sN,eC]
 |cons x l=>have e:=λb(d:b<=1000)=>rW (sz:=3) (bytes:=b) (r:=x.row) (rows:=l.map ec.row) (c:=c) (M:=[]) rfl d (by rw[cz];simp only[cc] at f;omega);have a:=rj (sz:=3) (id:=0) (ver:=0) (n:=l.length+1) (rows:=x.row::l.map ec.row) (fz:=0) (M:=[.aj 3 (x.row::l.map ec.row) 0 0]) rfl (by simp);simp only[gg,cc,eC,cz,eu,eH] at e a⊢;exact i_ e a
theorem Xr(l:List b1)(c:cg)(f:l.length<=100000):bq aH 126 [.slice (l.map b1.row) c] (λv=>v=.slice (l.map b1.row) (eC l.length)):=by
 refine bB VO ?_;cases l with
 |nil=>have e:=λb=>pw 5 b c [];simp only[jD];simp-implicitDefEqProofs (disch:=omega) only[go_sem,e,sN,eC]
 |cons x l=>have e:=λb(d:b<=1000)=>rW (sz:=5) (bytes:=b) (r:=x.row) (rows:=l.map b1.row) (c:=c) (M:=[]) rfl d (by rw[cz];simp only[cc] at f;omega);have a:=rj (sz:=5) (id:=0) (ver:=0) (n:=l.length+1) (rows:=x.row::l.map b1.row) (fz:=0) (M:=[.aj 5 (x.row::l.map b1.row) 0 0]) rfl (by simp);simp only[gg,cc,eC,cz,eu,eH] at e a⊢;exact i_ e a
theorem Xq(l:List bb)(c:cg)(f:l.length<=100000):bq aH 127 [.slice (l.map bb.row) c] (λv=>v=.slice (l.map bb.row) (eC l.length)):=by
 refine bB VM ?_;cases l with
 |nil=>have e:=λb=>pw 4 b c [];simp only[jD];simp-implicitDefEqProofs (disch:=omega) only[go_sem,e,sN,eC]
 |cons x l=>have e:=λb(d:b<=1000)=>rW (sz:=4) (bytes:=b) (r:=x.row) (rows:=l.map bb.row) (c:=c) (M:=[]) rfl d (by rw[cz];simp only[cc] at f;omega);have a:=rj (sz:=4) (id:=0) (ver:=0) (n:=l.length+1) (rows:=x.row::l.map bb.row) (fz:=0) (M:=[.aj 4 (x.row::l.map bb.row) 0 0]) rfl (by simp);simp only[gg,cc,eC,cz,eu,eH] at e a⊢;exact i_ e a
theorem Xp(l:List aZ)(c:cg)(f:l.length<=100000):bq aH 128 [.slice (l.map aZ.row) c] (λv=>v=.slice (l.map aZ.row) (eC l.length)):=by
 refine bB VK ?_;cases l with
 |nil=>have e:=λb=>pw 5 b c [];simp only[jD];simp-implicitDefEqProofs (disch:=omega) only[go_sem,e,sN,eC]
 |cons x l=>have e:=λb(d:b<=1000)=>rW (sz:=5) (bytes:=b) (r:=x.row) (rows:=l.map aZ.row) (c:=c) (M:=[]) rfl d (by rw[cz];simp only[cc] at f;omega);have a:=rj (sz:=5) (id:=0) (ver:=0) (n:=l.length+1) (rows:=x.row::l.map aZ.row) (fz:=0) (M:=[.aj 5 (x.row::l.map aZ.row) 0 0]) rfl (by simp);simp only[gg,cc,eC,cz,eu,eH] at e a⊢;exact i_ e a
theorem Iz(l:List cv)(c:cg)(f:l.length<=100000):bq aH 129 [.slice (l.map cv.row) c] (λv=>v=.slice (l.map cv.row) (eC l.length)):=by
 refine bB VQ ?_;cases l with
 |nil=>have e:=λb=>pw 6 b c [];simp only[jD];simp-implicitDefEqProofs (disch:=omega) only[go_sem,e,sN,eC]
 |cons x l=>have e:=λb(d:b<=1000)=>rW (sz:=6) (bytes:=b) (r:=x.row) (rows:=l.map cv.row) (c:=c) (M:=[]) rfl d (by rw[cz];simp only[cc] at f;omega);have a:=rj (sz:=6) (id:=0) (ver:=0) (n:=l.length+1) (rows:=x.row::l.map cv.row) (fz:=0) (M:=[.aj 6 (x.row::l.map cv.row) 0 0]) rfl (by simp);simp only[gg,cc,eC,cz,eu,eH] at e a⊢;exact i_ e a
def hv(c:Nat)(b:Nat)(a:List (List V)):V:=match a with
 |[]=>.slice [] .full
 |_::_=>.an b 0 0 a.length
def qa(b:Nat)(a:List (List V)):Mem:=match a with
 |[]=>[]
 |_::_=>[.aj b a 0 0]
theorem IA(l:List aV)(c:cg)(M:Mem)(h:l.length<=100000):bx aH 125 [.slice (l.map aV.row) c] M (λv d=>v=hv 8 M.length (l.map aV.row)/\d=M++qa 8 (l.map aV.row)):=by
 refine dX VU ?_;simp only[dN];cases l with
 |nil=>have e:=λb=>pw 8 b c M;simp only[jD];exact yo e @sN @hv.eq_1 @qa.eq_1 @ez.{0}
 |cons x l=>have e:=λb(g:b<=1000)=>rW (sz:=8) (bytes:=b) (r:=x.row) (rows:=l.map aV.row) (c:=c) (M:=M) rfl g (by rw[cz];simp only[cc] at h;omega);have a:=rj (sz:=8) (id:=M.length) (ver:=0) (n:=l.length+1) (rows:=x.row::l.map aV.row) (fz:=0) (M:=M++[.aj 8 (x.row::l.map aV.row) 0 0]) (cE M _) (by simp);have f:=cE M [.aj 8 (x.row::l.map aV.row) 0 0];simp only[gg,cz] at e a⊢;simp-implicitDefEqProofs (disch:=omega) only[go_sem,e,a,f,hv,qa]
end Go.ao.C
