/- Small words of this session's walks: where a walk is to stop. -/
import Derived.Test.YtgcagmmghckbbaaWMore
import Derived.Test.YtgcagmmghckbbaaWNEv
import Derived.Test.YtgcagmmghckbbaaWSized
namespace Go.Proofs.YtgcagmmghckbbaaW.PrintMore
/-- The walk stops here: it doesn't look into this. -/
structure Stop0 (p : Prop) : Prop where mk :: (out : p)
end Go.Proofs.YtgcagmmghckbbaaW.PrintMore
