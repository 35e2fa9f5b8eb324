/- The statement TopFares of layer transittop: for every input the law returns true, and each argument reads afterwards as before. No condition. -/
import Derived.Test.YtbndjigedmpplaaGreatRows
import Derived.ProofKit
import Derived.Test.YtbndjigedmpplaaGreatF5
namespace Go.Proofs.YtbndjigedmpplaaGreat
open Go.aQ Go.aQ.C
theorem Tryz.aJS:ownKnob Go.Proofs.Tryz.prog.godebug=none:=by kernel_rfl
theorem Tryz.aH1:laidOutB Go.Proofs.Tryz.prog=true:=by kernel_rfl
theorem DP(xs:List V)(h:uE [.agg KV,.agg KW] xs):cj av IY xs [] (fun v _=>v=.bool true):=by
 obtain⟨_,_,rfl,⟨_,rfl,U⟩,bH⟩:=Td h;obtain⟨_,_,rfl,⟨_,rfl,af⟩,b8⟩:=Td bH;cases aEr b8;obtain⟨n,rfl,aK⟩:=aKu U;obtain⟨q,rfl⟩:=aKx af;exact cj.mono (aac n q aK aa4) fun v _ aq=>aq.1
set_option maxRecDepth 100000 in
theorem aIo(os:Os)(Eg:os.Started)(H:Type)(enc:TypeId×Value->H):
 ReturnsInHanded {} Tryz.checked os 4 .any (Rows.topFaresSpec.pre6 enc Tryz.prog Tryz.f4 Rows.topFaresRow.domain false) (Rows.topFaresSpec.post enc Tryz.prog Tryz.f4 false true false false):=by
 refine aIn (C:=Tryz.checked) (pts:=[.agg KV,.agg KW]) (tb:=Tryz.f4.resultTypes[0]!) Tryz.aJS Tryz.aH1 Eg (by kernel_rfl) Tryz.func4 rfl (fun bI aw=>?_) (by kernel_rfl) (by kernel_rfl) (by kernel_rfl) (by kernel_rfl)
  (ChangeSpec.witness6 (enc:=enc) (C:=Tryz.checked) false ⟨#[],#[.agg #[.slice none 0 0,.slice none 0 0,.slice none 0 0,.slice none 0 0,.slice none 0 0,.slice none 0 0,.int .i64 0,.int .i64 0,.int .i64 0],.agg #[.int .i64 0,.int .i64 0,.int .i64 0,.bool false,.int .i64 0,.int .i64 0,.bool false,.bool false,.int .i64 0,.bool false]],[]⟩ 8 (by kernel_rfl) (by kernel_rfl) (by kernel_rfl) (by kernel_rfl)) DP;match bI,aw with
 |[h7,d1],_=>rfl
theorem TopFares_holds:Rows.TopFaresSaid:=
 OpenClaim.holds_of_wide 4 Tryz.f4 rfl rfl rfl rfl rfl rfl rfl ⟨rfl,rfl,rfl,rfl,rfl⟩ rfl rfl rfl rfl rfl (by kernel_rfl) Tryz.func4 (by kernel_rfl)
  (of_decide_eq_true (by kernel_rfl)) (by unfold Func.isWrapper;first|(rw[if_pos (by decide+kernel)];kernel_rfl)|(rw[if_neg (by decide+kernel)];exact⟨rfl,rfl⟩))
  (fun os Eg H enc _=>aIo os Eg H enc)
end Go.Proofs.YtbndjigedmpplaaGreat
