import Derived.Test.YtebdolonckjpiaaGreatDoorShelf
namespace Go.Proofs
end Go.Proofs
