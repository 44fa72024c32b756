/- FnExactConstants: the program's constants are the document's, so the law answers true. No condition. -/
import Derived.Test.YtdknjbadnbangaaPFnExactConstantsx1
namespace Go.Proofs.Ytdknjbadnbangaa.Pure
open Go.RowKit Go.Proofs.Ytdknjbadnbangaa.PFnExactConstants Go.Proofs.YtdknjbadnbangaaW.PrintWords Go.Proofs.YtdknjbadnbangaaW.PrintLast

theorem FnExactConstants : laws_FnExactConstants.Pure := rfl

end Go.Proofs.Ytdknjbadnbangaa.Pure
