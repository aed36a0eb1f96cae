/- The law's run. Printed by a program. -/
import Derived.Test.YtcpamijbhidheaaGreatNM5
set_option maxRecDepth 100000
namespace Go.Proofs.YtcpamijbhidheaaGreat
open Go.Vm
theorem Nmain : gives (run Ntab5 1000 (.func 7 [] [] [])) (.bool true) = true := by decide +kernel
theorem Nmain_t : TabOK Go.Proofs.Tryz.prog (fun _ => true) Ntab5 := Ntab5_t
theorem Nmain_p : PrimsOK Go.Proofs.Tryz.prog Ntab5 := Ntab5_p
def NmainTab : Tab := Ntab5
end Go.Proofs.YtcpamijbhidheaaGreat
