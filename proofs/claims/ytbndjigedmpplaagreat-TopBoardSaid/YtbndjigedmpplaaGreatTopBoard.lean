/- The statement TopBoard of layer transittop: for every input the law returns true, and each argument reads afterwards as before. No condition. -/
import Derived.Test.YtbndjigedmpplaaGreatRows
import Derived.ProofKit
import Derived.Test.YtbndjigedmpplaaGreatB5
namespace Go.Proofs.YtbndjigedmpplaaGreat
open Go.aL Go.aL.C
theorem Tryz.aNc:ownKnob Go.Proofs.Tryz.prog.godebug=none:=by kernel_rfl
theorem Tryz.aLj:laidOutB Go.Proofs.Tryz.prog=true:=by kernel_rfl
theorem Eh(xs:List V)(h:uT [.agg LP,.agg LQ] xs):b9 au JH xs [] (fun v _=>v=.bool true):=by
 obtain⟨_,_,rfl,⟨_,rfl,aa⟩,bI⟩:=Uc h;obtain⟨_,_,rfl,⟨_,rfl,af⟩,ce⟩:=Uc bI;cases aHJ ce;obtain⟨n,rfl,aK⟩:=aNL aa;obtain⟨q,rfl⟩:=aNO af;exact b9.mono (abe n q aK ab6) fun v _ aq=>aq.1
set_option maxRecDepth 100000 in
theorem aLI(os:Os)(EL:os.Started)(H:Type)(enc:TypeId×Value->H):
 ReturnsInHanded {} Tryz.checked os 5 .any (Rows.topBoardSpec.pre6 enc Tryz.prog Tryz.f5 Rows.topBoardRow.domain false) (Rows.topBoardSpec.post enc Tryz.prog Tryz.f5 false true false false):=by
 refine aLH (C:=Tryz.checked) (pts:=[.agg LP,.agg LQ]) (tb:=Tryz.f5.resultTypes[0]!) Tryz.aNc Tryz.aLj EL (by kernel_rfl) Tryz.func5 rfl (fun bK aw=>?_) (by kernel_rfl) (by kernel_rfl) (by kernel_rfl) (by kernel_rfl)
  (ChangeSpec.witness6 (enc:=enc) (C:=Tryz.checked) false ⟨#[],#[.agg #[.slice none 0 0,.slice none 0 0,.slice none 0 0,.slice none 0 0,.slice none 0 0,.slice none 0 0,.int .i64 0,.int .i64 0,.int .i64 0],.agg #[.int .i64 0,.int .i64 0,.int .i64 0,.bool false,.int .i64 0,.int .i64 0,.bool false,.bool false,.int .i64 0,.bool false]],[]⟩ 8 (by kernel_rfl) (by kernel_rfl) (by kernel_rfl) (by kernel_rfl)) Eh;match bK,aw with
 |[ig,d1],_=>rfl
theorem TopBoard_holds:Rows.TopBoardSaid:=
 OpenClaim.holds_of_wide 5 Tryz.f5 rfl rfl rfl rfl rfl rfl rfl ⟨rfl,rfl,rfl,rfl,rfl⟩ rfl rfl rfl rfl rfl (by kernel_rfl) Tryz.func5 (by kernel_rfl)
  (of_decide_eq_true (by kernel_rfl)) (by unfold Func.isWrapper;first|(rw[if_pos (by decide+kernel)];kernel_rfl)|(rw[if_neg (by decide+kernel)];exact⟨rfl,rfl⟩))
  (fun os EL H enc _=>aLI os EL H enc)
end Go.Proofs.YtbndjigedmpplaaGreat
