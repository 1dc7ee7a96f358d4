/-
  The numbers under which this dump holds sync.Mutex (a list of names and of the loader's facts), for the contracts of Derived.Conc.MuLone. Printed by a program of this session; the kernel checks every number.
-/
import Derived.Test.YtbccdjpkndnlbaaGreatProg
import Derived.Conc.MuLone
import Derived.KernelRfl
namespace Go.Proofs.YtbccdjpkndnlbaaGreat
abbrev muLink : Go.Conc.Locks.MuLink := { lock := 23, unlock := 16, ilock := 31, iunlock := 24, lockSlow := 50, unlockSlow := 35, disable := 33, enable := 36, acquire := 49, relMerge := 32, cas32 := 48, add32 := 34, tMutex := 30, tIMutex := 28, tPMutex := 77, tPIMutex := 95, tPI32 := 99, tUP := 97, tNoCopy := 25, tU32 := 26 }
theorem muLib : Go.Conc.Locks.MuLib Tryz.prog muLink :=
  ⟨Tryz.func23, Tryz.func16, Tryz.func31, Tryz.func24, Tryz.func33, Tryz.func36, Tryz.func49, Tryz.func32, Tryz.func48, Tryz.func34, Tryz.underlying28, Tryz.runUnderlying28, Tryz.sizeOf28, Tryz.isAgg28, Tryz.zeroValue28, Tryz.underlying30, Tryz.runUnderlying30, Tryz.sizeOf30, Tryz.isAgg30, Tryz.zeroValue30, Tryz.underlying77, Tryz.runUnderlying77, Tryz.sizeOf77, Tryz.isAgg77, Tryz.zeroValue77, Tryz.underlying95, Tryz.runUnderlying95, Tryz.sizeOf95, Tryz.isAgg95, Tryz.zeroValue95, Tryz.underlying99, Tryz.runUnderlying99, Tryz.sizeOf99, Tryz.isAgg99, Tryz.zeroValue99, Tryz.underlying97, Tryz.runUnderlying97, Tryz.sizeOf97, Tryz.isAgg97, Tryz.zeroValue97, Tryz.underlying25, Tryz.runUnderlying25, Tryz.sizeOf25, Tryz.isAgg25, Tryz.zeroValue25, Tryz.underlying21, Tryz.runUnderlying21, Tryz.sizeOf21, Tryz.isAgg21, Tryz.zeroValue21, (by kernel_rfl)⟩
end Go.Proofs.YtbccdjpkndnlbaaGreat
