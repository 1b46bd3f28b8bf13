/- Arguments of this seat: names and numbers of bundles, opened. -/
import Derived.Test.YthbmdkhlialmeaaDoorOpen2
import Derived.Test.YthbmdkhlialmeaaDoorProg
open Go.RowKit Go.Pl
namespace Go.Proofs.YthbmdkhlialmeaaDoor
theorem openE : Opens Tryd.prog 24 RE :=
  opens_prod5 Tryd.underlying24 rfl rfl rfl rfl rfl rfl (by kernel_rfl) (by kernel_rfl) (by kernel_rfl) (by kernel_rfl) (by kernel_rfl) (by kernel_rfl) (opens_bool Tryd.underlying4) (opens_u64 Tryd.underlying22) (opens_u64 Tryd.underlying22) (opens_str Tryd.underlying9) (opens_str Tryd.underlying9)
theorem openI : Opens Tryd.prog 26 RI :=
  opens_prod3 Tryd.underlying26 rfl (by kernel_rfl) rfl rfl rfl (by kernel_rfl) (by kernel_rfl) (by kernel_rfl) openE (opens_u64 Tryd.underlying22) (opens_u64 Tryd.underlying22)
end Go.Proofs.YthbmdkhlialmeaaDoor
