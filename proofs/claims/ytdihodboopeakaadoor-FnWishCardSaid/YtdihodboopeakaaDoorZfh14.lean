-- Joined and pruned by wip/tools/prune.py out of this session's own texts (Tbs)
import Derived.Test.YtdihodboopeakaaDoorZfh13
import Derived.Test.YtdihodboopeakaaDoorRows
import Derived.Lib.LaidU8
import Derived.LaidMore
/- From the rows' condition to the tables. -/
namespace Go.Proofs.YtdihodboopeakaaDoor.Pr
open Go.RowKit Go.Lib Go.Proofs.YtdihodboopeakaaDoorW.PrintWords
theorem xU : U8Extra Tryd.prog Tryd.lays260_ren := ⟨by kernel_rfl, by kernel_rfl, by kernel_rfl, by kernel_rfl, by kernel_rfl, by kernel_rfl, by kernel_rfl⟩
theorem acceptEq : Rows.laid_unicode_utf8_acceptRanges (H := Unit) = acceptData := by kernel_rfl
theorem firstEq : Rows.laid_unicode_utf8_first = firstData := by kernel_rfl
theorem tabsOf {W : World} (hL : laidMetH Tryd.prog [("unicode/utf8.acceptRanges", Rows.laid_unicode_utf8_acceptRanges), ("unicode/utf8.first", Rows.laid_unicode_utf8_first)] W) : Tabs W := by
  rw [MakeChecks.laidMetH_plain _ _ _ (by kernel_rfl)] at hL
  exact utf8Tabs_of_reads Tryd.lays260 xU (firstEq ▸ Lib.laidMet.reads hL (.tail _ (.head _))) (acceptEq ▸ Lib.laidMet.reads hL (.head _))
end Go.Proofs.YtdihodboopeakaaDoor.Pr
