import Derived.Test.YtlllcknpdpjbpaaGreatDoorNobTab
import Derived.Test.YtlllcknpdpjbpaaGreatDoorFrD
import Derived.KernelRfl
namespace Go.Proofs.Sh
open Go
def theD : DP := { fn := tab.get, prim := fun f => if f = N.slices_AppendSeq_int_int then some (appSeq N.maps_Keys_map_int_shard_prepared_int_shard_prepared_S1) else none, quiet := fun f => quietL.contains f }
theorem one_ok : (dcall theD 1000 N.peeragelaw28_one 0 [] []).map (fun x => x.1) = some (.bool true) := by kernel_rfl
end Go.Proofs.Sh
