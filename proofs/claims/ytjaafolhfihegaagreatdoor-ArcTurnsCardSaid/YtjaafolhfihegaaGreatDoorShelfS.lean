import Derived.Test.YtjaafolhfihegaaGreatDoorShelf
namespace Go.Proofs
end Go.Proofs
