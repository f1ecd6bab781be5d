import Derived.Test.YtpndhlcbfobelaaProg
import Derived.KernelRfl
namespace Go.Proofs.Ytpndhlcbfobelaa
open Go
theorem info75 : (Try.prog.info? 75).map (fun i => (i.zero, i.size, i.bytes)) = some (some (.agg #[(.int .i64 0), (.int .i64 0), (.int .i64 0)]), 3, 24) := by kernel_rfl
end Go.Proofs.Ytpndhlcbfobelaa
