import Derived.Test.YtfjhhmgbmfjloaaPFnExactIsValidOpx4
import Derived.Test.YtfjhhmgbmfjloaaOpenK
namespace Go.Proofs.Ytfjhhmgbmfjloaa
open Go.RowKit Go.Proofs.Ytfjhhmgbmfjloaa.PFnExactIsValidOp Go.Proofs.YtfjhhmgbmfjloaaW.PrintWords Go.Proofs.YtfjhhmgbmfjloaaW.PrintLast Go.Proofs.Ytfjhhmgbmfjloaa.OpenK
end Go.Proofs.Ytfjhhmgbmfjloaa
