/- What peloton/pelotonlaw13.alive answers at the arguments that a law meets. Printed by a program. -/
import Derived.Test.YtcpamijbhidheaaGreatNM4
set_option maxRecDepth 100000
namespace Go.Proofs.YtcpamijbhidheaaGreat
open Go.Vm
def Nk33_0 : List PV := []
theorem Ng33_0 : gives (run Ntab4 1000 (.func 33 Nk33_0 [] [])) (.bool true) = true := by decide +kernel
def Nl33 : List (List PV × PV) := [(Nk33_0, .bool true)]
theorem Na33 : ∀ p ∈ Nl33, ∃ n, gives (run Ntab4 n (.func 33 p.1 [] [])) p.2 = true := (List.forall_mem_cons.2 ⟨⟨1000, Ng33_0⟩, (fun _ h => nomatch h)⟩)
def Ntab5 : Tab := over 33 Nl33 Ntab4
theorem Ntab5_t : TabOK Go.Proofs.Tryz.prog (fun _ => true) Ntab5 := over_tabOK Ntab4_t
theorem Ntab5_p : PrimsOK Go.Proofs.Tryz.prog Ntab5 := over_primsOK Ntab4_t Ntab4_p prog_mixed Na33 rfl
end Go.Proofs.YtcpamijbhidheaaGreat
