import Derived.Test.YtgodkfgnhpnhcaaGreatDoorShelf
namespace Go.Proofs
end Go.Proofs
