/- A fraction that is written and read. -/
import Derived.Test.YtdjbfgfbpimakaaPoDx
namespace Go.Proofs.Ytdjbfgfbpimakaa.M
end Go.Proofs.Ytdjbfgfbpimakaa.M
